/- Texts merged (2). -/
import Derived.Shelf.Sort.Plain
import Derived.Shelf.Slices.In.SortNone
import Derived.Shelf.Slices.CompactI
import Derived.Shelf.SlIterI.Nil
import Derived.Test.YtfcpkcehecmcpaaGreatKa
set_option linter.unusedVariables false
set_option linter.unusedSimpArgs false
open Option renaming bind_some → APv, map_some → APw, bind_eq_some_iff → APx
open List renaming getElem?_eq_getElem → APy, length_append → APz, length_map → AP0, length_singleton → AP1, mem_append → AP2, mem_cons → AP3, mem_range → AP4, getElem_mem → AP5, nil_append → AP6, append_assoc → AP7, length_filter_le → AP8, findSome?_eq_none_iff → AP9, take_length → AQa
open Int renaming toNat_natCast → AQb, eq_ofNat_of_zero_le → AQc
open Bool renaming and_eq_true → AQd, eq_iff_iff → AQe, or_eq_true → AQf
namespace Go.Pv
open Go Go.RowKit
section
variable {α : Type} {a b c d e f g h i j x : α} {l : List α}
theorem m0 : x ∈ x :: l := .head _
theorem m1 : x ∈ a :: x :: l := .tail _ m0
theorem m2 : x ∈ a :: b :: x :: l := .tail _ m1
theorem m3 : x ∈ a :: b :: c :: x :: l := .tail _ m2
theorem m4 : x ∈ a :: b :: c :: d :: x :: l := .tail _ m3
theorem m5 : x ∈ a :: b :: c :: d :: e :: x :: l := .tail _ m4
theorem m6 : x ∈ a :: b :: c :: d :: e :: f :: x :: l := .tail _ m5
theorem m7 : x ∈ a :: b :: c :: d :: e :: f :: g :: x :: l := .tail _ m6
theorem m8 : x ∈ a :: b :: c :: d :: e :: f :: g :: h :: x :: l := .tail _ m7
end
theorem Fr.sb {a : Act} {n : Nat} {m m' : Mp_} (h : Fr a n m) (hs : AEb m' m := by (repeat refine ⟨rfl, ?_⟩); exact trivial) : Fr a n m' := h.sub hs
def ldV (T : Tab) (m : Mp_) (cs : List Value) (n : Nat) (o : Oper) : Option (Nat × Nat × Value) :=
 match o.op with
 | .load t x => match ev m x with
  | some (.pointer (some ⟨g, off, none⟩)) => match Auv o n with
   | some d => bif inL T.ng t then (match cs[off]? with
     | some v => some (g, d, v)
     | none => none) else (match off with
     | 0 => (match agL T.ag t with
      | some k => bif Nat.beq cs.length k then some (g, d, .agg ⟨cs⟩) else none
      | none => none)
     | _ => none)
   | none => none
  | _ => none
 | _ => none
def ldA (T : Tab) (m : Mp_) (n : Nat) (o : Oper) : Option (Nat × Nat × Nat) :=
 match o.op with
 | .load t x => match ev m x with
  | some (.pointer (some ⟨g, 0, none⟩)) => match Auv o n with
   | some d => (match agL T.ag t with
    | some k => some (g, d, k)
    | none => none)
   | none => none
  | _ => none
 | _ => none
def ixV (m : Mp_) (n : Nat) (o : Oper) : Option (TypeId × Value × Int × Nat) :=
 match o.op with
 | .indexAddr t x y => match ev m x with
  | some v => match ev m y with
   | some (.int _ j) => match Auv o n with
    | some d => some (t, v, j, d)
    | none => none
   | _ => none
  | none => none
 | _ => none
section
variable {P : Program} {w w' : World} {m m' : Mp_} {ops : Array Oper} {Q Q0 : Exit → Act → World → Prop} {a : Act} {n : Nat} {l l' : List Oper} {v : Value} {K : List Kf} {X X' : Act → World → Prop}
variable {w0 : World} {F0 : List Nat} {ps : List Ck} {o : Oper} {d g t : Nat} {cs : List Value}
theorem ADc {T : Tab} (h2 : ldV T m cs n o = some (g, d, v)) : Auv o n = some d := by
 unfold ldV at h2
 split at h2
 ·split at h2
  ·split at h2
   ·rename_i d' hd
    have : d' = d := by
     revert h2
     rcases inL T.ng _ with _ | _
     ·simp only [cond_false]
      intro h2
      split at h2
      ·split at h2
       ·rename_i k _
        rcases hb : Nat.beq cs.length k with _ | _
        ·rw [hb] at h2; cases h2
        ·rw [hb] at h2; cases h2; rfl
       ·cases h2
      ·cases h2
     ·simp only [cond_true]
      intro h2
      split at h2
      ·cases h2; rfl
      ·cases h2
    rw [hd, this]
   ·cases h2
  ·cases h2
 ·cases h2
theorem AA3 {T : Tab} (hT : T.okB P = true) (hs : SL w0 F0 w ps) (hm : Cw g t cs ∈ ps) (h : ldV T m cs n o = some (g, d, v)) : EX P w m o v w ∧ Auv o n = some d := by
 obtain ⟨dd, op, ty, pos, aft, gd⟩ := o
 unfold ldV at h
 split at h
 ·rename_i t' x hop
  simp only at hop
  subst hop
  split at h
  ·rename_i g' off hx
   split at h
   ·rename_i d' hd
    rcases hn : inL T.ng t' with _ | _
    ·rw [hn] at h
     simp only [cond_false] at h
     split at h
     ·split at h
      ·rename_i k hk
       rcases hb : Nat.beq cs.length k with _ | _
       ·rw [hb] at h; cases h
       ·rw [hb] at h
        cases h
        exact ⟨Au3 (agT hT hk) hx (hs.Afh hm (o := 0) (ds := cs) (fun j u hu => by rw [Nat.zero_add]; exact hu)) (Nat.eq_of_beq_eq_true hb), hd⟩
      ·cases h
     ·cases h
    ·rw [hn] at h
     simp only [cond_true] at h
     split at h
     ·rename_i u hu
      cases h
      exact ⟨A5q (ngT hT hn) hx (hs.Ai8 hm hu), hd⟩
     ·cases h
   ·cases h
  ·cases h
 ·cases h
theorem AMq {T : Tab} {k : Nat} (hT : T.okB P = true) (hs : SL w0 F0 w ps) (hm : Cw g t cs ∈ ps) (h : ldA T m n o = some (g, d, k)) (hk : cs.length = k) : EX P w m o (.agg ⟨cs⟩) w ∧ Auv o n = some d := by
 obtain ⟨dd, op, ty, pos, aft, gd⟩ := o
 unfold ldA at h
 split at h
 ·rename_i t' x hop
  simp only at hop
  subst hop
  split at h
  ·rename_i g' hx
   split at h
   ·rename_i d' hd
    split at h
    ·rename_i k' hk'
     cases h
     exact ⟨Au3 (agT hT hk') hx (hs.Afh hm (o := 0) (ds := cs) (fun j u hu => by rw [Nat.zero_add]; exact hu)) hk, hd⟩
    ·cases h
   ·cases h
  ·cases h
 ·cases h
theorem A2u {t : TypeId} {i : Int} {ad : Addr} (hi : IxA P t v i ad) (h : ixV m n o = some (t, v, i, d)) : (∀ w, EX P w m o (.pointer (some ad)) w) ∧ Auv o n = some d := by
 obtain ⟨dd, op, ty, pos, aft, gd⟩ := o
 unfold ixV at h
 split at h
 ·rename_i t' x y hop
  simp only at hop
  subst hop
  split at h
  ·rename_i v' hv
   split at h
   ·rename_i k j hj
    split at h
    ·rename_i d' hd
     cases h
     exact ⟨fun w => hi _ _ _ _ _ _ _ _ _ _ hv hj, hd⟩
    ·cases h
   ·cases h
  ·cases h
 ·cases h
section
variable [h0 : App P]
theorem Ki (hF : Fr a n m) (hs : SL w0 F0 w ps) (hm : Cw g t cs ∈ ps) (i : Nat) (h : ((ldV h0.T m cs n o).bind fun r => (run P Q0 h0.T n i (.li ops l) K ((r.2.1, r.2.2) :: m)).map fun x => (r.1, x)) = some (g, m', X)) (k : ∀ a, Fr a n m' → X a w) : wpList P ops (Af4 P Q0 K) (o :: l) a w := by
 obtain ⟨⟨g', d, v⟩, h1, h2⟩ := Option.bind_eq_some_iff.1 h
 obtain ⟨x, h3, h4⟩ := Option.map_eq_some_iff.1 h2
 cases h4
 obtain ⟨he, hd⟩ := AA3 h0.ok hs hm h1
 exact gx hF he i hd h3 k
theorem gla {c : Nat} (hF : Fr a n m) (hs : SL w0 F0 w ps) (hm : Cw g t cs ∈ ps) (i : Nat) (h : ((ldA h0.T m n o).bind fun r => (run P Q0 h0.T n i (.li ops l) K ((r.2.1, .agg ⟨cs⟩) :: m)).map fun x => (r.1, r.2.2, x)) = some (g, c, m', X)) (k : ∀ a, Fr a n m' → X a w) (hc : cs.length = c := by simp) : wpList P ops (Af4 P Q0 K) (o :: l) a w := by
 obtain ⟨⟨g', d, v⟩, h1, h2⟩ := Option.bind_eq_some_iff.1 h
 obtain ⟨x, h3, h4⟩ := Option.map_eq_some_iff.1 h2
 cases h4
 obtain ⟨he, hd⟩ := AMq h0.ok hs hm h1 hc
 exact gx hF he i hd h3 k
theorem gi {t : TypeId} {j : Int} {ad : Addr} (hF : Fr a n m) (hi : IxA P t v j ad) (i : Nat) (h : ((ixV m n o).bind fun r => (run P Q0 h0.T n i (.li ops l) K ((r.2.2.2, .pointer (some ad)) :: m)).map fun x => (r.1, r.2.1, r.2.2.1, x)) = some (t, v, j, m', X)) (k : ∀ a, Fr a n m' → X a w) : wpList P ops (Af4 P Q0 K) (o :: l) a w := by
 obtain ⟨⟨t', v', j', d⟩, h1, h2⟩ := Option.bind_eq_some_iff.1 h
 obtain ⟨x, h3, h4⟩ := Option.map_eq_some_iff.1 h2
 cases h4
 obtain ⟨he, hd⟩ := A2u hi h1
 exact gx hF (he w) i hd h3 k
theorem QI.ld {is : List Nat} {i : Nat} (hm : Cw g t cs ∈ ps) (h : ((ops[i]?).bind (ldV h0.T m cs n)) = some (g, d, v)) (k : QI P ops n (fun w_ => SL w0 F0 w_ ps) ((d, v) :: m) is m') : QI P ops n (fun w_ => SL w0 F0 w_ ps) m (i :: is) m' := by
 obtain ⟨o, h1, h2⟩ := Option.bind_eq_some_iff.1 h
 exact QI.op h1 (fun w hw => (AA3 h0.ok hw hm h2).1) (ADc h2) k
omit h0 in
theorem QI.ix {is : List Nat} {i : Nat} {S : World → Prop} {t : TypeId} {j : Int} {ad : Addr} (hi : IxA P t v j ad) (h : ((ops[i]?).bind (ixV m n)) = some (t, v, j, d)) (k : QI P ops n S ((d, .pointer (some ad)) :: m) is m') : QI P ops n S m (i :: is) m' := by
 obtain ⟨o, h1, h2⟩ := Option.bind_eq_some_iff.1 h
 exact QI.op h1 (fun w hw => (A2u hi h2).1 w) (A2u hi h2).2 k
omit h0 in
theorem Ad4 {id : Nat} {l : List Oper} (hm : P.follows .mixedOrders = true) (hs : SL w0 F0 w ps) (h : HD P l.toArray Q (fun w_ => SL w0 F0 w_ ps) [] a w.drew) : (Code.region id l.toArray true).wp P Q a w := AO3 hm _ h
theorem QR.ld {rest rest' : List Oper} (hm : Cw g t cs ∈ ps) (h : ldV h0.T m cs n o = some (g, d, v)) (k : QR P n ops (fun w_ => SL w0 F0 w_ ps) ((d, v) :: m) rest m' rest') : QR P n ops (fun w_ => SL w0 F0 w_ ps) m (o :: rest) m' rest' :=
 have hd := Aze (ADc h)
 QR.op (fun w hw => (AA3 h0.ok hw hm h).1) k hd.1 hd.2.1 hd.2.2
omit h0 in
theorem QR.ix {rest rest' : List Oper} {S : World → Prop} {t : TypeId} {j : Int} {ad : Addr} (hi : IxA P t v j ad) (h : ixV m n o = some (t, v, j, d)) (k : QR P n ops S ((d, .pointer (some ad)) :: m) rest m' rest') : QR P n ops S m (o :: rest) m' rest' :=
 have hd := Aze (A2u hi h).2
 QR.op (fun w hw => (A2u hi h).1 w) k hd.1 hd.2.1 hd.2.2
omit h0 in
theorem QR.qo {rest rest' : List Oper} {S : World → Prop} (he : ∀ w, S w → EX P w m o v w) (hd : Auv o n = some d) (k : QR P n ops S ((d, v) :: m) rest m' rest') : QR P n ops S m (o :: rest) m' rest' :=
 have h := Aze hd
 QR.op he k h.1 h.2.1 h.2.2
omit h0 in
theorem QR.qg {rest rest' : List Oper} {S : World → Prop} {j dj : Nat} {b : Bool} (he : ∀ w, S w → EX P w m o v w) (hg : o.guard = some (j, b)) (hj : (ops[j]?).bind (·.dst) = some dj) (hb : look m dj = some (.bool b)) (hd : o.dst = some d) (hlt : Nat.blt d n = true) (k : QR P n ops S ((d, v) :: m) rest m' rest') : QR P n ops S m (o :: rest) m' rest' := QR.gop he hg hj hb k hd hlt
omit h0 in
theorem QR.qs {rest rest' : List Oper} {S : World → Prop} {j dj : Nat} {b c : Bool} (hg : o.guard = some (j, c)) (hj : (ops[j]?).bind (·.dst) = some dj) (hb : look m dj = some (.bool b)) (hne : b ≠ c) (hd : o.dst = some d) (hlt : Nat.blt d n = true) (k : QR P n ops S ((d, undef) :: m) rest m' rest') : QR P n ops S m (o :: rest) m' rest' := QR.AEr hg hj hb hne k hd hlt
omit h0 in
theorem QR.qt {rest rest' : List Oper} {S : World → Prop} {j dj : Nat} {c : Bool} (hg : o.guard = some (j, c)) (hj : (ops[j]?).bind (·.dst) = some dj) (hb : look m dj = some undef) (hd : o.dst = some d) (hlt : Nat.blt d n = true) (k : QR P n ops S ((d, undef) :: m) rest m' rest') : QR P n ops S m (o :: rest) m' rest' := QR.AHi hg hj hb k hd hlt
omit h0 in
theorem ALz {S : World → Prop} {T : Tab} {m1 : Mp_} {rest rest' : List Oper} (hT : T.okB P = true) (h : evG T ops n m o = some m1) (t : QR P n ops S m1 rest m' rest') : QR P n ops S m (o :: rest) m' rest' := by
 unfold evG at h
 split at h
 ·cases h
 ·rename_i d hd
  rcases hlt : Nat.blt d n with _ | _
  ·rw [hlt] at h; cases h
  ·rw [hlt] at h
   simp only [cond_true] at h
   split at h
   ·rename_i hg
    split at h
    ·rename_i v hv
     cases h
     exact QR.op (fun w _ => Atw hT hv) t hg hd hlt
    ·cases h
   ·rename_i j b hg
    split at h
    ·cases h
    ·rename_i dj hj
     split at h
     ·rename_i c hb
      split at h
      ·split at h
       ·rename_i v hv
        cases h
        exact QR.gop (fun w _ => Atw hT hv) hg hj hb t hd hlt
       ·cases h
      ·split at h
       ·rename_i v hv
        cases h
        exact QR.gop (fun w _ => Atw hT hv) hg hj hb t hd hlt
       ·cases h
      ·cases h
       exact QR.AEr hg hj hb Bool.noConfusion t hd hlt
      ·cases h
       exact QR.AEr hg hj hb Bool.noConfusion t hd hlt
     ·rename_i hb
      cases h
      exact QR.AHi hg hj hb t hd hlt
     ·cases h
omit h0 in
theorem QR.ev_ {S : World → Prop} {T : Tab} (hT : T.okB P = true) {m1 : Mp_} {rest rest' : List Oper} : ∀ (k : Nat) {m : Mp_} {l : List Oper}, evR T ops n k m l = some (m1, rest) → QR P n ops S m1 rest m' rest' → QR P n ops S m l m' rest'
 | 0, m, l, h, t => by cases h; exact t
 | k + 1, m, [], h, t => by cases h
 | k + 1, m, o :: l, h, t => by
  simp only [evR] at h
  split at h
  ·rename_i m2 h2
   exact ALz hT h2 (QR.ev_ hT k h t)
  ·cases h
theorem QR.ev {S : World → Prop} {m1 : Mp_} {rest rest' : List Oper} (k : Nat) (h : evR h0.T ops n k m l = some (m1, rest)) (t : QR P n ops S m1 rest m' rest') : QR P n ops S m l m' rest' := QR.ev_ h0.ok k h t
omit h0 in
theorem Alj {id : Nat} {l : List Oper} (hm : P.follows .mixedOrders = true) (hs : SL w0 F0 w ps) (hF : Fr a n m) (h : QR P n l.toArray (fun w_ => SL w0 F0 w_ ps) m l m' []) (k : ∀ w a, SL w0 F0 w ps → Fr a n m' → Q .normal a w) (hB : Region.lexB .any l.toArray = true := by kernel_rfl) : (Code.region id l.toArray true).wp P Q a w := ALc _ hm hB hs.drew hF h k
omit h0 in
theorem Ai7 {α : Type} {T : Ty α} {enc : α → List Value} (hFl : Flat T enc) {v : Value} {l : List α} {t e sz bytes : Nat} {z : Value → Bool} {i : Int} {x : α} (h : ∀ w, SL w0 F0 w ps → ∃ G, Ajc T w G v l) (hw : SL w0 F0 w ps)
  (hb : slB P t e sz bytes z = true) (hz : T.sz = sz) (hx : idx l i = some x) : ∃ ad, IxA P t v i ad ∧ ∀ w, SL w0 F0 w ps → Abe w ad (enc x) := AO4 (C := fun w_ => SL w0 F0 w_ ps) hFl h hw hb hz hx
end
theorem fR {α : Type} {T : Ty α} {v : Value} {l : List α} (h : Rd T w0 F0 v l) (hs : SL w0 F0 w ps) : ∃ A c, v = .slice A l.length c := Ao3 (rdL h hs)
theorem fO {α : Type} {T : Ty α} {v : Value} {l : List α} (hs : SL w0 F0 w ps) (hm : Sl T v l ∈ ps) : ∃ A c, v = .slice A l.length c := Ao3 (hs.Ac5 hm)
end
abbrev jI (n : Int) : Value := .int .i64 n
abbrev jU (n : Int) : Value := .int .u8 n
abbrev jP (g : Nat) : Value := .pointer (some ⟨g, 0, none⟩)
abbrev jZ : List Value := .int .i64 0 :: .int .i64 0 :: XK (Vector.replicate 24 (0 : UInt8))
end Go.Pv
namespace Go.Pv
open Go Go.RowKit
section
variable {P : Program} {w0 w w' : World} {F0 : List Nat} {ps qs q1 rest : List Ck} {W : Type} {n : A7j} {K : Nat} {T : Ty W} {vs : List Value} {ts : List (Af0 W)} {L : List (List Ck)} {v : Value} {t : Af0 W}
def Amv (n : A7j) (T : Ty W) (K : Nat) (vs : List Value) (ts : List (Af0 W)) (L : List (List Ck)) : Ck :=
 ⟨fun w F => (∀ k ∈ F, k < w.heap.size) ∧ (vs.length = K ∧ ∀ v ∈ vs, v.oneCell' = true) ∧ (∀ (k : Nat) t, ts[k]? = some t → ∃ v G, vs[k]? = some v ∧ Acd [Tlc n T v t] w G ∧ ∀ j ∈ G, j ∈ F) ∧ ∀ qs ∈ L, ∃ G, Acd qs w G ∧ ∀ j ∈ G, j ∈ F,
  fun ⟨h0, h1, h2, h3⟩ hk => ⟨fun k hk' => by
   have h4 := hk k hk'
   rw [Array.getElem?_eq_getElem (h0 k hk')] at h4
   exact (Array.getElem?_eq_some_iff.1 h4).1, h1, fun k t ht => by
   obtain ⟨v, G, a, b, c⟩ := h2 k t ht
   exact ⟨v, G, a, b.loc fun j hj => hk j (c j hj), c⟩, fun qs hq => by
   obtain ⟨G, b, c⟩ := h3 qs hq
   exact ⟨G, b.loc fun j hj => hk j (c j hj), c⟩⟩,
  fun h => h.1⟩
theorem SL.AJz {g ty : Nat} (hs : SL w0 F0 w (Cw g ty (List.replicate K .nilFunc) :: ps)) : ∃ vs, SL w0 F0 w (Cw g ty vs :: Amv n T K vs (List.replicate K (.nil : Af0 W)) [] :: ps) := by
 refine ⟨_, hs.re fun F ⟨F1, F2, e, h1, h2, hd⟩ => ⟨F, ⟨F1, F2, e, h1, ⟨[], F2, rfl, ⟨by simp, ⟨List.length_replicate, ?_⟩, ?_, by simp⟩, h2, by simp⟩, hd⟩, fun _ => Iff.rfl⟩⟩
 ·intro v hv
  rw [List.eq_of_mem_replicate hv]
  rfl
 ·intro j t ht
  have hj := (List.getElem?_eq_some_iff.1 ht).1
  rw [List.length_replicate] at hj
  rw [List.getElem?_replicate, Bu hj] at ht
  cases ht
  exact ⟨.nilFunc, [], by rw [List.getElem?_replicate, Bu hj], Acd.one (p := Tlc n T .nilFunc .nil) ⟨[], ⟨rfl, rfl⟩, rfl⟩, by simp⟩
theorem SL.ABn (hs : SL w0 F0 w (qs ++ Amv n T K vs ts L :: ps)) : SL w0 F0 w (Amv n T K vs ts (qs :: L) :: ps) := hs.re fun F hst => by
 obtain ⟨F1, F2, e, h1, ⟨F3, F4, e2, ⟨a0, a1, a2, a3⟩, h4, hd2⟩, hd⟩ := Acd.append.1 hst
 refine ⟨F, ⟨F1 ++ F3, F4, by rw [e, e2, AP7], ⟨?_, a1, ?_, ?_⟩, h4, ?_⟩, fun _ => Iff.rfl⟩
 ·intro k hk
  rcases List.mem_append.1 hk with h | h
  ·exact h1.lt k h
  ·exact a0 k h
 ·intro k t ht
  obtain ⟨v, G, b, c, d⟩ := a2 k t ht
  exact ⟨v, G, b, c, fun j hj => List.mem_append_right _ (d j hj)⟩
 ·intro q hq
  rcases List.mem_cons.1 hq with rfl | hq
  ·exact ⟨F1, h1, fun j hj => List.mem_append_left _ hj⟩
  ·obtain ⟨G, c, d⟩ := a3 q hq
   exact ⟨G, c, fun j hj => List.mem_append_right _ (d j hj)⟩
 ·intro k hk hk'
  rcases List.mem_append.1 hk with h | h
  ·exact hd k h (by rw [e2]; exact List.mem_append_right _ hk')
  ·exact hd2 k h hk'
theorem SL.ALv (hm : q1 ∈ L) (hs : SL w0 F0 w (qs ++ Amv n T K vs ts L :: ps)) : SL w0 F0 w (Amv n T K vs ts ((qs ++ q1) :: L) :: ps) := hs.re fun F hst => by
 obtain ⟨F1, F2, e, h1, ⟨F3, F4, e2, ⟨a0, a1, a2, a3⟩, h4, hd2⟩, hd⟩ := Acd.append.1 hst
 refine ⟨F, ⟨F1 ++ F3, F4, by rw [e, e2, AP7], ⟨?_, a1, ?_, ?_⟩, h4, ?_⟩, fun _ => Iff.rfl⟩
 ·intro k hk
  rcases List.mem_append.1 hk with h | h
  ·exact h1.lt k h
  ·exact a0 k h
 ·intro k t ht
  obtain ⟨v, G, b, c, d⟩ := a2 k t ht
  exact ⟨v, G, b, c, fun j hj => List.mem_append_right _ (d j hj)⟩
 ·intro q hq
  rcases List.mem_cons.1 hq with rfl | hq
  ·obtain ⟨G, c, d⟩ := a3 q1 hm
   exact ⟨F1 ++ G, Acd.append.2 ⟨F1, G, rfl, h1, c, fun j hj hj' => hd j hj (by rw [e2]; exact List.mem_append_left _ (d j hj'))⟩, fun j hj => by
    rcases List.mem_append.1 hj with h | h
    ·exact List.mem_append_left _ h
    ·exact List.mem_append_right _ (d j h)⟩
  ·obtain ⟨G, c, d⟩ := a3 q hq
   exact ⟨G, c, fun j hj => List.mem_append_right _ (d j hj)⟩
 ·intro k hk hk'
  rcases List.mem_append.1 hk with h | h
  ·exact hd k h (by rw [e2]; exact List.mem_append_right _ hk')
  ·exact hd2 k h hk'
theorem SL.ABp (hs : SL w0 F0 w ps) (hm : Amv n T K vs ts L ∈ ps) (hq : qs ∈ L) {g t o : Nat} {cs : List Value} {u : Value} (hb : Cw g t cs ∈ qs) (hu : cs[o]? = some u) : w.cell? ⟨g, o, none⟩ = some u := by
 obtain ⟨F, hst, hF⟩ := hs.st
 obtain ⟨G, ⟨_, _, _, a3⟩, hG⟩ := Ane hm hst
 obtain ⟨G', c, _⟩ := a3 qs hq
 exact (SL.init w G' c).Ai8 hb hu
theorem SL.ALu {k : Nat} (hs : SL w0 F0 w (qs ++ Amv n T K vs ts L :: ps)) (hk : Nat.blt k K = true) (h1v : v.oneCell' = true) (hm : q1 = [] ∨ q1 ∈ L) (hq : ∀ w G, SL w G w (qs ++ q1) → SL w G w [Tlc n T v t]) :
  SL w0 F0 w (Amv n T K (vs.set k v) (ts.set k t) L :: ps) := hs.re fun F hst => by
 obtain ⟨F1, F2, e, h1, ⟨F3, F4, e2, ⟨a0, a1, a2, a3⟩, h4, hd2⟩, hd⟩ := Acd.append.1 hst
 refine ⟨F, ⟨F1 ++ F3, F4, by rw [e, e2, AP7], ⟨?_, ⟨by rw [List.length_set]; exact a1.1, ?_⟩, ?_, ?_⟩, h4, ?_⟩, fun _ => Iff.rfl⟩
 ·intro k hk
  rcases List.mem_append.1 hk with h | h
  ·exact h1.lt k h
  ·exact a0 k h
 ·intro u hu
  rcases List.mem_or_eq_of_mem_set hu with h | rfl
  ·exact a1.2 u h
  ·exact h1v
 ·intro j t' ht
  have hk : k < vs.length := by rw [a1.1]; simpa [Nat.blt_eq] using hk
  by_cases hj : k = j
  ·subst hj
   have ht' : t = t' := by
    rw [List.getElem?_set] at ht
    split at ht
    ·split at ht
     ·exact Option.some.inj ht
     ·cases ht
    ·rename_i hn; exact absurd rfl hn
   subst ht'
   have hG : ∃ G1, Acd q1 w G1 ∧ ∀ j ∈ G1, j ∈ F3 := by
    rcases hm with rfl | hm
    ·exact ⟨[], rfl, by simp⟩
    ·exact a3 q1 hm
   obtain ⟨G1, c, d⟩ := hG
   have h5 : Acd (qs ++ q1) w (F1 ++ G1) := Acd.append.2 ⟨F1, G1, rfl, h1, c, fun j hj hj' => hd j hj (by rw [e2]; exact List.mem_append_left _ (d j hj'))⟩
   obtain ⟨G2, h6, h7⟩ := (hq w _ (SL.init w _ h5)).st
   refine ⟨v, G2, by rw [List.getElem?_set_self hk], h6, fun j hj => ?_⟩
   rcases h7 j hj with h8 | h8
   ·rcases List.mem_append.1 h8 with h9 | h9
    ·exact List.mem_append_left _ h9
    ·exact List.mem_append_right _ (d j h9)
   ·exact absurd (h6.lt j hj) (by omega)
  ·rw [List.getElem?_set_ne hj] at ht
   obtain ⟨v', G, b, c, d⟩ := a2 j t' ht
   exact ⟨v', G, by rw [List.getElem?_set_ne hj]; exact b, c, fun i hi => List.mem_append_right _ (d i hi)⟩
 ·intro q hq
  obtain ⟨G, c, d⟩ := a3 q hq
  exact ⟨G, c, fun j hj => List.mem_append_right _ (d j hj)⟩
 ·intro k hk hk'
  rcases List.mem_append.1 hk with h | h
  ·exact hd k h (by rw [e2]; exact List.mem_append_right _ hk')
  ·exact hd2 k h hk'
theorem SL.Azg (hs : SL w0 F0 w ps) (hm : Amv n T K vs ts L ∈ ps) : (vs.length = K ∧ ∀ v ∈ vs, v.oneCell' = true) ∧ ∀ (k : Nat) t, ts[k]? = some t → ∃ v, vs[k]? = some v ∧ SL w0 F0 w [Tlc n T v t] := by
 obtain ⟨F, hst, hF⟩ := hs.st
 obtain ⟨G, ⟨_, a1, a2, _⟩, hG⟩ := Ane hm hst
 refine ⟨a1, fun k t ht => ?_⟩
 obtain ⟨v, G', b, c, d⟩ := a2 k t ht
 exact ⟨v, b, hs.fm, G', c, fun j hj => hF j (hG j (d j hj))⟩
end
section
variable {P : Program} {w0 w : World} {F0 : List Nat} {ps qs q1 : List Ck} {m : List (Nat × Value)} {n d : Nat} {ty : TypeId} {pos : String} {aft : Array Edge} {x y : Operand} {ops : Array Oper} {Q : Exit → Act → World → Prop} {a : Act} {l' : List Oper} {W : Type} {nn : A7j} {K : Nat} {T : Ty W} {vs : List Value} {ts : List (Af0 W)} {L : List (List Ck)} {v : Value} {t : Af0 W}
theorem A8w {b : Ck} (hs : SL w0 F0 w (qs ++ b :: ps)) : SL w0 F0 w (b :: (qs ++ ps)) := hs.re fun F hst => by
 obtain ⟨F1, F2, e, h1, ⟨F3, F4, e2, h2, h3, hd2⟩, hd⟩ := Acd.append.1 hst
 refine ⟨F3 ++ (F1 ++ F4), ⟨F3, F1 ++ F4, rfl, h2, Acd.append.2 ⟨F1, F4, rfl, h1, h3, fun k hk hk' => hd k hk (by rw [e2]; exact List.mem_append_right _ hk')⟩, fun k hk hk' => ?_⟩, fun k => ?_⟩
 ·rcases List.mem_append.1 hk' with h | h
  ·exact hd k h (by rw [e2]; exact List.mem_append_left _ hk)
  ·exact hd2 k hk h
 ·rw [e, e2]
  simp only [AP2]
  constructor
  ·rintro (h | h | h)
   ·exact .inr (.inl h)
   ·exact .inl h
   ·exact .inr (.inr h)
  ·rintro (h | h | h)
   ·exact .inr (.inl h)
   ·exact .inl h
   ·exact .inr (.inr h)
theorem Ad0 {g tb t' k : Nat} (hF : Fr a n m) (hs : SL w0 F0 w (qs ++ Cw g tb vs :: Amv nn T K vs ts L :: ps)) (hx : ev m x = some (.pointer (some ⟨g, k, none⟩))) (hy : ev m y = some v)
  (hi : (P.info? t').map (·.size) = some 1) (hv : v.cells = #[v]) (h1 : v.oneCell' = true) (hk : Nat.blt k K = true) (hm : q1 = [] ∨ q1 ∈ L) (hq : ∀ w G, SL w G w (qs ++ q1) → SL w G w [Tlc nn T v t])
  (kk : ∀ vs' w a, Fr a n m → SL w0 F0 w (Cw g tb vs' :: Amv nn T K vs' (ts.set k t) L :: ps) → wpList P ops Q l' a w) : wpList P ops Q (⟨none, .store t' x y, ty, pos, aft, none⟩ :: l') a w := by
 have hk' : k < vs.length := by
  obtain ⟨F, hst, _⟩ := hs.st
  obtain ⟨G, ⟨_, a1, _⟩, _⟩ := Ane (p := Amv nn T K vs ts L) (by simp) hst
  rw [a1.1]
  simpa [Nat.blt_eq] using hk
 refine Axq hF (A8w hs) hx hy hi hv h1 (APy hk') fun w a hF hs => ?_
 refine kk (vs.set k v) w a hF ?_
 have h3 := hs.rot
 simp only [AP7] at h3
 have h4 : SL w0 F0 w (qs ++ Amv nn T K vs ts L :: (ps ++ [Cw g tb (vs.set k v)])) := by simpa using h3
 have h5 := SL.ALu h4 hk h1 hm hq
 have h6 : SL w0 F0 w ((Amv nn T K (vs.set k v) (ts.set k t) L :: ps) ++ Cw g tb (vs.set k v) :: []) := by simpa using h5
 simpa using A8w h6
end
end Go.Pv
namespace Go.Pv
open Go Go.RowKit Go.Sort Go.Shelf Go.Proofs
theorem A2m (off : Nat) (d : Array Int) (c : Array Value) (j : Nat) : (putCells (Value.int .i64) off d c)[j]? = if j < c.size then (if off ≤ j ∧ j < off + d.size then some (Value.int .i64 d[j - off]!) else c[j]?) else none := by
 unfold putCells
 rw [Array.getElem?_mapIdx]
 by_cases hj : j < c.size
 ·rw [Bu hj, Array.getElem?_eq_getElem hj, APw]
  split <;> rfl
 ·rw [A7 hj, Array.getElem?_eq_none (by omega)]
  rfl
theorem As2 (off : Nat) (d : Array Int) (c : Array Value) : (putCells (Value.int .i64) off d c).size = c.size := by simp [putCells]
theorem Atp : ∀ (l : List Int), l.flatMap (fun x => [Value.int .i64 x]) = l.map (Value.int .i64)
 | [] => rfl
 | x :: l => by rw [List.flatMap_cons, Atp l]; rfl
theorem A5e {P : Program} {ρ : Ren} (L : Lays.n189 P ρ) {w : World} {FF : List Nat} {v : Value} {l r : List Int} (hst : Acd [Sl (Ty.int .i64) v l] w FF) (hr : Awg l = some r) :
  Calls P (ρ.f 189) #[v] w (Ret fun u w' => u = .tuple #[] ∧ SL w FF w' [Sl (Ty.int .i64) v r]) := by
 unfold Awg at hr
 split at hr
 ·rename_i hlen
  cases hr
  have hown : slOwn (Ty.int .i64) w FF v l := Acd.Aqf hst
  have hrow := (Flat.int .i64).slOwn.1 hown
  have hperm : (Ag3 l).length = l.length := by simp [Ag3]
  rcases hrow.2 with ⟨rfl, h0, rfl⟩ | ⟨g, o, cap, cur, e, fz, rfl, rfl, hg, hnc, hoc, hfz, hcells⟩
  ·have hl : l = [] := List.eq_nil_of_length_eq_zero h0
   subst hl
   refine (Any.slices_Sort_int_none L none 0 w).mono fun _ w' ⟨he, hw⟩ => ⟨_, he, rfl, ?_⟩
   subst hw
   have : Ag3 [] = [] := by simp [Ag3]
   rw [this]
   exact SL.init w' [] hst
  ·have hsz : (Ty.int .i64).sz = 1 := rfl
   rw [Atp l] at hcells
   rw [hsz, Nat.mul_one] at hoc
   have hcur : ∀ j, j < l.length → cur[o + j]? = some (Value.int .i64 (l.toArray[j]!)) := fun j hj => by
    have h1 := hcells j (Value.int .i64 l[j]) (by rw [List.getElem?_map, APy hj]; rfl)
    rw [h1]
    congr 2
    simp [hj]
   have hH : Holds (Value.int .i64) w g o l.toArray := fun j hj => by
    have hj' : j < l.length := by simpa using hj
    refine ⟨?_, ?_⟩
    ·simp [World.cell?, hg, hcur j hj']
    ·have := hfz (o + j) (by omega)
     simp [World.frozen?, hg]
     omega
   refine (Any.slices_Sort_int L g o cap l w hH (Am9 hg) hlen).mono fun _ w' ⟨he, n, os, hw⟩ => ⟨_, he, rfl, ?_⟩
   have hheap : w'.heap = (w.heap.modify g fun | .cells c e fr => .cells (putCells (Value.int .i64) o (Ag3 l).toArray c) e fr | ob => ob) ++ os := by
    rw [hw]
    rfl
   have hgl := Am9 hg
   have hother : ∀ k, k < w.heap.size → k ≠ g → w'.heap[k]? = w.heap[k]? := fun k hk hne => by
    rw [hheap, Array.getElem?_append_left (by simpa using hk), Array.getElem?_modify, A7 (fun h => hne h.symm)]
   have hself : w'.heap[g]? = some (.cells (putCells (Value.int .i64) o (Ag3 l).toArray cur) e fz) := by
    rw [hheap, Array.getElem?_append_left (by simpa using hgl), Array.getElem?_modify, Bu rfl, hg]
    rfl
   refine ⟨⟨by rw [hw]; rfl, by rw [hw]; rfl, by rw [hw]; rfl, by rw [hheap]; simp, fun k hk hn => hother k hk (by simpa using hn)⟩, [g], Acd.one (p := Sl (Ty.int .i64) _ (Ag3 l)) ((Flat.int .i64).slOwn.2 ⟨?_, .inr ⟨g, o, cap, _, e, fz, by rw [hperm], rfl, hself, by omega, ?_, ?_, ?_⟩⟩), fun k hk => .inl hk⟩
   ·rw [Aru (Flat.int .i64)]
   ·rw [hsz, Nat.mul_one, As2]; exact hoc
   ·intro j hj
    rw [As2] at hj
    exact hfz j hj
   ·intro j u hu
    rw [Atp (Ag3 l), List.getElem?_map] at hu
    rcases hx : (Ag3 l)[j]? with _ | x
    ·rw [hx] at hu; cases hu
    ·rw [hx] at hu
     have hjl := (List.getElem?_eq_some_iff.1 hx).1
     rw [A2m, Bu (by omega), Bu ⟨by omega, by simp; omega⟩, Nat.add_sub_cancel_left]
     simp only [APw, Option.some.injEq] at hu
     rw [← hu]
     congr 2
     have : (Ag3 l)[j] = x := by
      rw [APy hjl] at hx
      exact Option.some.inj hx
     simp [hjl, this]
 ·cases hr
end Go.Pv
namespace Go.Pv
open Go Go.RowKit Go.Sort Go.Shelf Go.Proofs Go.Maps
theorem AKj {w w' : World} {d r : List Int} {g o cap : Nat} {cur : Array Value} {e : TypeId} {fz : Nat × Nat} {os : Array Obj}
  (hg : w.heap[g]? = some (.cells cur e fz)) (hoc : o + cap ≤ cur.size) (hnc : d.length ≤ cap) (hfz : ∀ j, j < cur.size → ¬ (fz.1 ≤ j ∧ j < fz.2))
  (hr : r.length ≤ d.length) (hp : ∀ j, j < r.length → r[j]? = d[j]?)
  (ho : w'.os = w.os) (ht : w'.tape = w.tape) (hu : w'.output = w.output)
  (hheap : w'.heap = (w.heap.modify g fun | .cells c e fr => .cells (putCells (Value.int .i64) o d.toArray c) e fr | ob => ob) ++ os) :
  SL w [g] w' [Sl (Ty.int .i64) (.slice (some ⟨g, o, none⟩) r.length cap) r] := by
 have hgl := Am9 hg
 have hother : ∀ k, k < w.heap.size → k ≠ g → w'.heap[k]? = w.heap[k]? := fun k hk hne => by
  rw [hheap, Array.getElem?_append_left (by simpa using hk), Array.getElem?_modify, A7 (fun h => hne h.symm)]
 have hself : w'.heap[g]? = some (.cells (putCells (Value.int .i64) o d.toArray cur) e fz) := by
  rw [hheap, Array.getElem?_append_left (by simpa using hgl), Array.getElem?_modify, Bu rfl, hg]
  rfl
 have hsz : (Ty.int .i64).sz = 1 := rfl
 refine ⟨⟨ho, ht, hu, by rw [hheap]; simp, fun k hk hn => hother k hk (by simpa using hn)⟩, [g], Acd.one (p := Sl (Ty.int .i64) _ r) ((Flat.int .i64).slOwn.2 ⟨?_, .inr ⟨g, o, cap, _, e, fz, rfl, rfl, hself, by omega, ?_, ?_, ?_⟩⟩), fun k hk => .inl hk⟩
 ·rw [Aru (Flat.int .i64)]
 ·rw [hsz, Nat.mul_one, As2]; exact hoc
 ·intro j hj
  rw [As2] at hj
  exact hfz j hj
 ·intro j u hu'
  rw [Atp r, List.getElem?_map] at hu'
  rcases hx : r[j]? with _ | x
  ·rw [hx] at hu'; cases hu'
  ·have hjl := (List.getElem?_eq_some_iff.1 hx).1
   rw [hx] at hu'
   have hd := hp j hjl
   rw [hx] at hd
   have hdl := (List.getElem?_eq_some_iff.1 hd.symm).1
   rw [A2m, Bu (by omega), Bu ⟨by omega, by simp; omega⟩, Nat.add_sub_cancel_left]
   simp only [APw, Option.some.injEq] at hu'
   rw [← hu']
   congr 2
   have : d[j] = x := by
    rw [APy hdl] at hd
    exact (Option.some.inj hd).symm
   simp [hdl, this]
def As5 (l : List Int) : Option (List Int) := if l.length < 4611686018427387904 then some (Lib.compact l) else none
theorem ACi (l : List Int) : (Lib.compact l).length ≤ l.length := by
 unfold Lib.compact Lib.compactUpTo
 rw [AP0]
 refine Nat.le_trans (AP8 _ _) ?_
 rw [List.length_range]
 exact Nat.le_refl _
theorem A31 {P : Program} {ρ : Ren} (L : Lays2.n20 P ρ) {w : World} {FF : List Nat} {v : Value} {l r : List Int} (hst : Acd [Sl (Ty.int .i64) v l] w FF) (hr : As5 l = some r) :
  Calls P (ρ.f 20) #[v] w (Ret fun u w' => SL w FF w' [Sl (Ty.int .i64) u r]) := by
 unfold As5 at hr
 split at hr
 ·rename_i hlen
  cases hr
  have hown : slOwn (Ty.int .i64) w FF v l := Acd.Aqf hst
  have hrow := (Flat.int .i64).slOwn.1 hown
  rcases hrow.2 with ⟨rfl, h0, rfl⟩ | ⟨g, o, cap, cur, e, fz, rfl, rfl, hg, hnc, hoc, hfz, hcells⟩
  ·have hl : l = [] := List.eq_nil_of_length_eq_zero h0
   subst hl
   refine (Any.slices_Compact_int_empty L none 0 w).mono fun _ w' ⟨he, hw⟩ => ⟨_, he, ?_⟩
   subst hw
   have : Lib.compact ([] : List Int) = [] := rfl
   rw [this]
   exact SL.init w' [] hst
  ·have hsz : (Ty.int .i64).sz = 1 := rfl
   rw [Atp l] at hcells
   rw [hsz, Nat.mul_one] at hoc
   have hcur : ∀ j, j < l.length → cur[o + j]? = some (Value.int .i64 (l.toArray[j]!)) := fun j hj => by
    have h1 := hcells j (Value.int .i64 l[j]) (by rw [List.getElem?_map, APy hj]; rfl)
    rw [h1]
    congr 2
    simp [hj]
   have hH : Holds (Value.int .i64) w g o l.toArray := fun j hj => by
    have hj' : j < l.length := by simpa using hj
    refine ⟨?_, ?_⟩
    ·simp [World.cell?, hg, hcur j hj']
    ·have := hfz (o + j) (by omega)
     simp [World.frozen?, hg]
     omega
   have hcl := ACi l
   refine (Any.slices_Compact_int L g o cap l w hH (by omega) hnc).mono fun _ w' ⟨he, q, hw⟩ => ⟨_, he, ?_⟩
   refine AKj (d := Lib.compact l ++ List.replicate (l.length - (Lib.compact l).length) 0) (os := #[]) hg hoc ?_ hfz ?_ ?_ (by rw [hw]; rfl) (by rw [hw]; rfl) (by rw [hw]; rfl) ?_
   ·simp; omega
   ·simp
   ·intro j hj
    rw [List.getElem?_append_left hj]
   ·rw [hw, Array.append_empty]
    rfl
 ·cases hr
def A54 {ν : Type} (l : List (Int × ν)) : Option (List Int) :=
 if decide (l.length ≤ 1000000000) && l.all (fun p => decide (-9223372036854775808 ≤ p.1) && decide (p.1 ≤ 9223372036854775807)) then some (Ag3 (l.map Prod.fst)) else none
theorem AIq {P : Program} {ρ : Ren} (L : SlLaysZI.n7 P ρ) {w : World} {g : Nat} :
  Calls P (ρ.f 7) #[.map (some g)] w (Ret fun u w' => ∃ k, u = clo (ρ.f 10) [.pointer (some ⟨k, 0, none⟩)] ∧ SL w [] w' [Cw k (ρ.t 23) [.map (some g)]]) :=
 (callsIn_wide (n := 6)).1 ((AnyZI.keys_in L Fence.wide 6 trivial rfl (some g) w).mono fun e w' ⟨he, hw⟩ => ⟨_, he, w.heap.size, rfl, by
  subst hw
  exact ⟨Fm.alloc w [] _, [w.heap.size], Acd.one (p := Cw _ _ _) ⟨rfl, heap_alloc_new w _⟩, fun k hk => .inr (by simp only [List.mem_singleton] at hk; omega)⟩⟩)
theorem AD5 {P : Program} {k : TypeId} (hk : P.underlying k = some (.int .i64)) {x : Int} (h1 : -9223372036854775808 ≤ x) (h2 : x ≤ 9223372036854775807) : keyOf P k (.int .i64 x) = some (.int .i64 x) := by
 simp only [keyOf, hk, mapKey, true_and, ite_eq_left_iff]
 intro h
 refine absurd ?_ h
 simp only [Lit.wf, IntKind.min, IntKind.max, AS, AQd]
 first | exact ⟨h1, h2⟩ | (constructor <;> simp [IntKind.signed, IntKind.bits] <;> omega)
theorem ADn {P : Program} {ρ6 ρ7 ρs : Ren} (L6 : SlLaysZI.n6 P ρ6) (L7 : SlLaysZI.n7 P ρ7) (Ls : Lays.n189 P ρs) (e9 : ρ6.f 9 = ρs.f 189) {ν : Type} {ev_ : ν → Value} {w : World} {FF : List Nat} {g kb : Nat} {l : List (Int × ν)} {r : List Int}
  (h8 : fnB P (ρ6.f 8) = true) (h9 : fnB P (ρ6.f 9) = true) (h10 : fnB P (ρ7.f 10) = true)
  (hst : Acd [Mp (Value.int .i64) ev_ g l, Cw kb (ρ7.t 23) [.map (some g)]] w FF) (hr : A54 l = some r) :
  Calls P (ρ6.f 6) #[clo (ρ7.f 10) [.pointer (some ⟨kb, 0, none⟩)]] w (Ret fun u w' => SL w FF w' [Mp (Value.int .i64) ev_ g l, Sl (Ty.int .i64) u r]) := by
 unfold A54 at hr
 split at hr
 ·rename_i hok
  cases hr
  simp only [AQd, AS, List.all_eq_true] at hok
  obtain ⟨hlen, hrange⟩ := hok
  obtain ⟨F1, F2, eF, ⟨e1, es, clock, hm⟩, ⟨F3, F4, eF2, ⟨e3, hkb⟩, e4, _⟩, hd⟩ := hst
  have hgl := Am9 hm.heap
  have hkl := Am9 hkb
  have hesz : es.size = l.length := hm.size
  have hent : ∀ x ∈ es.toList, ∃ p ∈ l, x.key = Value.int .i64 p.1 := fun x hx => by
   obtain ⟨j, hj, hjx⟩ := List.mem_iff_getElem.1 hx
   have hj' : es[j]? = some x := by rw [← Array.getElem?_toList, APy hj, hjx]
   obtain ⟨p, hp, hk, _⟩ := hm.entry hj'
   exact ⟨p, List.mem_of_getElem? hp, hk⟩
  let R : Value → Option (DataW Unit × List MemPlace) := fun _ => some (.lit (.bool true), [])
  have hkeys : ∀ k : TypeId, P.underlying k = some (.int .i64) → ∀ x ∈ es.toList, ∃ p ∈ l, x.key = Value.int .i64 p.1 ∧ WideElems.rd P k R x = some (.int .i64 p.1, .lit (.bool true)) := fun k hk x hx => by
   obtain ⟨p, hp, hxk⟩ := hent x hx
   refine ⟨p, hp, hxk, ?_⟩
   have h1 := hrange p hp
   simp only [WideElems.rd, hxk, AD5 hk h1.1 h1.2, APv, R, APw]
  have hown : w.ownsMap P (ρ7.t 26) R g l.length (.map ((es.toList.map (WideElems.rg P (ρ7.t 26) R)).foldr DataW.insert [])) := by
   refine ⟨es, clock, hm.heap, ⟨?_, ⟨hm.lt, hm.born.imp (fun h => by omega), ?_⟩, ?_⟩, by omega, rfl⟩
   ·unfold maxLen; omega
   ·have h1 : es.toList.map (·.key) = (l.map Prod.fst).map (Value.int .i64) := by
     have h2 := congrArg (List.map Prod.fst) hm.map
     simpa [List.map_map, Function.comp_def] using h2
    rw [h1]
    exact List.pairwise_map.2 (hm.nodup.imp fun hne e => hne (by cases e; rfl))
   ·intro x hx
    obtain ⟨p, _, _, h⟩ := hkeys _ L7.t26 x hx
    exact ⟨_, h⟩
  have hperm : (intKeys (DataW.map ((es.toList.map (WideElems.rg P (ρ7.t 26) R)).foldr DataW.insert []) : DataW Unit)).Perm (l.map Prod.fst) := by
   refine ((WideShapes.sorted_perm _).map _).trans ?_
   rw [List.map_map]
   have h1 : es.toList.map ((fun p => intOf p.1) ∘ WideElems.rg P (ρ7.t 26) R) = l.map Prod.fst := by
    have h2 := congrArg (List.map fun p : Value × Value => match p.1 with | .int _ a => a | _ => 0) hm.map
    rw [List.map_map, List.map_map] at h2
    refine Eq.trans (List.map_congr_left fun x hx => ?_) (h2.trans (List.map_congr_left fun x hx => ?_))
    ·obtain ⟨p, _, hk, h⟩ := hkeys _ L7.t26 x hx
     simp only [Function.comp, WideElems.rg, h, Option.getD_some, intOf, hk]
    ·simp only [Function.comp]
   rw [h1]
  have hsizeD : Maps.size (DataW.map ((es.toList.map (WideElems.rg P (ρ7.t 26) R)).foldr DataW.insert []) : DataW Unit) = l.length := by
   show (((es.toList.map (WideElems.rg P (ρ7.t 26) R)).foldr DataW.insert [])).length = l.length
   rw [length_sorted, AP0, Array.length_toList, hesz]
  have hcell : w.cell? ⟨kb, 0, none⟩ = some (.map (some g)) := by simp [World.cell?, hkb]
  have hseq := AnyZI.keys_gives (ρ := ρ7) { L7 with } Fence.wide 2 trivial rfl (by omega) kb g l.length _ w hkl hcell hown
  have hsorts : AnyZI.SortsIn P ρ6 Fence.wide 4 := ⟨fun blk off cap ss W hH hblk hsz => callsIn_wide.2 (by rw [e9]; exact Any.slices_Sort_int Ls blk off cap ss W hH hblk hsz),
   fun p cap W => callsIn_wide.2 (by rw [e9]; exact Any.slices_Sort_int_none Ls p cap W)⟩
  have cS := AnyZI.sorted_in L6 Fence.wide 5 trivial trivial trivial trivial rfl (by omega) hsorts (fun args w => Ao8 h9 args) (ρ7.f 10) #[.pointer (some ⟨kb, 0, none⟩)] trivial (fun args w => Ao8 h10 args) _ _ (by rw [hsizeD]; unfold maxLen; omega) (by rw [hsizeD]; omega) w hseq
  refine ((callsIn_wide (n := 5)).1 cS).mono fun _ w' ⟨v, ss, he, hss, hrow, hnil, hb⟩ => ⟨v, he, ?_⟩
  have hfm : Fm w FF w' := ⟨hb.os, hb.tape, hb.output, hb.size, fun k hk _ => hb.block k hk⟩
  have hsort : ss.mergeSort (fun x y => decide (x ≤ y)) = Ag3 (l.map Prod.fst) := mergeSort_of_perm_i (hss.trans hperm)
  rw [hsort] at hrow
  have hslen : (Ag3 (l.map Prod.fst)).length = ss.length := by rw [← hsort]; simp
  refine SL.mk hfm ?_
  have hmp : (Mp (Value.int .i64) ev_ g l).P w' [g] := ⟨rfl, es, clock, ⟨by rw [hb.block g hgl]; exact hm.heap, hm.map, hm.born, hm.lt, hm.nodup⟩⟩
  rcases hrow.2 with ⟨rfl, h0⟩ | ⟨gb, cap, cur, rfl, hbase, hgb, r1, r2, r3, r4⟩
  ·have hz : Ag3 (l.map Prod.fst) = [] := List.eq_nil_of_length_eq_zero (by rw [hslen]; exact h0)
   rw [hz]
   refine ⟨[g], ⟨[g], [], rfl, hmp, ⟨[], [], rfl, slOwn.nil w', rfl, by simp⟩, by simp⟩, fun k hk => .inl ?_⟩
   rw [eF, e1]
   simp only [List.mem_singleton] at hk
   simp [hk]
  ·have hne : gb ≠ g := by omega
   have hcl : cur.toList.take (ss.length * 1) = (Ag3 (l.map Prod.fst)).map (Value.int .i64) := r4
   refine ⟨[g, gb], ⟨[g], [gb], rfl, hmp, ⟨[gb], [], rfl, (Flat.int .i64).slOwn.2 ⟨by rw [Aru (Flat.int .i64)], .inr ⟨gb, 0, cap, cur, _, (0, 0), by rw [hslen], rfl, hgb, by omega, ?_, fun j hj => by simp, ?_⟩⟩, rfl, by simp⟩, by simp; exact fun e => hne e.symm⟩, fun k hk => ?_⟩
   ·show 0 + cap * 1 ≤ cur.size
    rw [r3]
    omega
   ·intro j u hu
    rw [Atp, ← hcl, List.getElem?_take] at hu
    split at hu
    ·rw [Nat.zero_add, ← Array.getElem?_toList]; exact hu
    ·cases hu
   ·simp only [AP3, List.not_mem_nil, or_false] at hk
    rcases hk with rfl | rfl
    ·left
     rw [eF, e1]
     simp
    ·exact .inr hbase
 ·cases hr
end Go.Pv
namespace Go.Proofs.YtfcpkcehecmcpaaGreat
open Go Go.RowKit Go.Pv
structure Acg where
 Name : List UInt8
 Akl : UInt8
def Aqi (x : Acg) := (x.Name, x.Akl)
def Ad8 : Ty Acg := Ty.iso (Ty.pair Ty.str Ty.u8) Aqi
theorem Agh : Flat Ad8 (fun x => [.string ⟨⟨x.Name⟩⟩, .int .u8 (x.Akl.toNat : Int)]) := Flat.iso (Flat.pair Flat.str Flat.u8) _
structure BV where
 Name : List UInt8
 Ace : Int
 Fields : List Acg
def Aor (x : BV) := (x.Name, x.Ace, x.Fields)
def Hw : Ty BV := Ty.iso (Ty.pair Ty.str (Ty.pair (Ty.int .i64) (Ty.slice Ad8))) Aor
theorem Ael {w : World} {F0 : List Nat} {G : List Nat} {x : BV} {cs : List Value} (h : (Hw).rd w G x cs) (hG : ∀ k ∈ G, k < w.heap.size ∧ k ∉ F0) :
  ∃ v2 : Value, cs = [.string ⟨⟨x.Name⟩⟩, .int .i64 x.Ace, v2] ∧ Rd Ad8 w F0 v2 x.Fields := by
 obtain ⟨_, _, rfl, rfl, ⟨_, _, rfl, rfl, ⟨v2, rfl, h0⟩⟩⟩ := h
 exact ⟨v2, rfl, ⟨G, h0, hG⟩⟩
structure Aa6 where
 Abs : List UInt8
 Result : UInt8
def Ajo (x : Aa6) := (x.Abs, x.Result)
def Ach : Ty Aa6 := Ty.iso (Ty.pair (Ty.slice Ty.u8) Ty.u8) Ajo
theorem Ajk {w : World} {F0 : List Nat} {G : List Nat} {x : Aa6} {cs : List Value} (h : (Ach).rd w G x cs) (hG : ∀ k ∈ G, k < w.heap.size ∧ k ∉ F0) :
  ∃ v0 : Value, cs = [v0, .int .u8 (x.Result.toNat : Int)] ∧ Rd Ty.u8 w F0 v0 x.Abs := by
 obtain ⟨_, _, rfl, ⟨v0, rfl, h0⟩, rfl⟩ := h
 exact ⟨v0, rfl, ⟨G, h0, hG⟩⟩
structure Adh where
 Name : List UInt8
 Sig : Aa6
 Locals : Int
 Code : List UInt8
def Ap2 (x : Adh) := (x.Name, x.Sig, x.Locals, x.Code)
def Ado : Ty Adh := Ty.iso (Ty.pair Ty.str (Ty.pair Ach (Ty.pair (Ty.int .i64) (Ty.slice Ty.u8)))) Ap2
theorem An9 {w : World} {F0 : List Nat} {G : List Nat} {x : Adh} {cs : List Value} (h : (Ado).rd w G x cs) (hG : ∀ k ∈ G, k < w.heap.size ∧ k ∉ F0) :
  ∃ v1 v4 : Value, cs = [.string ⟨⟨x.Name⟩⟩, v1, .int .u8 (x.Sig.Result.toNat : Int), .int .i64 x.Locals, v4] ∧ Rd Ty.u8 w F0 v1 x.Sig.Abs ∧ Rd Ty.u8 w F0 v4 x.Code := by
 obtain ⟨_, _, rfl, rfl, ⟨_, _, rfl, ⟨_, _, rfl, ⟨v1, rfl, h0⟩, rfl⟩, ⟨_, _, rfl, rfl, ⟨v4, rfl, h1⟩⟩⟩⟩ := h
 exact ⟨v1, v4, rfl, ⟨G, h0, hG⟩, ⟨G, h1, hG⟩⟩
structure LK where
 Name : List UInt8
 Classes : List BV
 Funcs : List Adh
 Adm : List (List UInt8)
def At1 (x : LK) := (x.Name, x.Classes, x.Funcs, x.Adm)
def A1n : Ty LK := Ty.iso (Ty.pair Ty.str (Ty.pair (Ty.slice Hw) (Ty.pair (Ty.slice Ado) (Ty.slice (Ty.slice Ty.u8))))) At1
theorem AA8 {w : World} {F0 : List Nat} {G : List Nat} {x : LK} {cs : List Value} (h : (A1n).rd w G x cs) (hG : ∀ k ∈ G, k < w.heap.size ∧ k ∉ F0) :
  ∃ v1 v2 v3 : Value, cs = [.string ⟨⟨x.Name⟩⟩, v1, v2, v3] ∧ Rd Hw w F0 v1 x.Classes ∧ Rd Ado w F0 v2 x.Funcs ∧ Rd (Ty.slice Ty.u8) w F0 v3 x.Adm := by
 obtain ⟨_, _, rfl, rfl, ⟨_, _, rfl, ⟨v1, rfl, h0⟩, ⟨_, _, rfl, ⟨v2, rfl, h1⟩, ⟨v3, rfl, h2⟩⟩⟩⟩ := h
 exact ⟨v1, v2, v3, rfl, ⟨G, h0, hG⟩, ⟨G, h1, hG⟩, ⟨G, h2, hG⟩⟩
structure CO where
 At : Int
 Op : UInt8
 A : Int
 B : Int
def AB6 (x : CO) := (x.At, x.Op, x.A, x.B)
def Abq : Ty CO := Ty.iso (Ty.pair (Ty.int .i64) (Ty.pair Ty.u8 (Ty.pair (Ty.int .i64) (Ty.int .i64)))) AB6
theorem Afp : Flat Abq (fun x => [.int .i64 x.At, .int .u8 (x.Op.toNat : Int), .int .i64 x.A, .int .i64 x.B]) := Flat.iso (Flat.pair (Flat.int .i64) (Flat.pair Flat.u8 (Flat.pair (Flat.int .i64) (Flat.int .i64)))) _
structure Ads where
 l : List CO
 Ae3 : Int
structure GG where
 Classes : List BV
 OS : List Aa6
 Fn : Int
structure B0 where
 Locals : Int
 Height : Int
 Slots : Vector UInt8 24
def ACg (x : B0) := (x.Locals, x.Height, x.Slots)
def Ac7 : Ty B0 := Ty.iso (Ty.pair (Ty.int .i64) (Ty.pair (Ty.int .i64) (Ty.AEs 24))) ACg
theorem Adz : Flat Ac7 (fun x => (.int .i64 x.Locals :: .int .i64 x.Height :: XK x.Slots)) := Flat.iso (Flat.pair (Flat.int .i64) (Flat.pair (Flat.int .i64) (Flat.AEs 24))) _
structure Ac9 where
 At : Int
 Dead : Bool
 Frame : B0
def AB7 (x : Ac9) := (x.At, x.Dead, x.Frame)
def Afx : Ty Ac9 := Ty.iso (Ty.pair (Ty.int .i64) (Ty.pair Ty.bool Ac7)) AB7
theorem Aj2 : Flat Afx (fun x => (.int .i64 x.At :: .bool x.Dead :: .int .i64 x.Frame.Locals :: .int .i64 x.Frame.Height :: XK x.Frame.Slots)) := Flat.iso (Flat.pair (Flat.int .i64) (Flat.pair Flat.bool Adz)) _
structure Aae where
 e : GG
 code : List UInt8
 frames : List (Int × B0)
 fresh : List (Int × Unit)
 taken : List (Int × Int)
 Ade : Int
structure BQ where
 kind : Int
 t : UInt8
def AB8 (x : BQ) := (x.kind, x.t)
def HO : Ty BQ := Ty.iso (Ty.pair (Ty.int .i64) Ty.u8) AB8
theorem Adk : Flat HO (fun x => [.int .i64 x.kind, .int .u8 (x.t.toNat : Int)]) := Flat.iso (Flat.pair (Flat.int .i64) Flat.u8) _
structure Ac6 where
 takes : List BQ
 gives : Gv
structure LX where
 Has : List Bool
 Frame : List B0
 Aeg : List Bool
 Taken : List Int
def Ag6 (wb : World) (Fb : List Nat) : Ty Aa6 := Ty.iso (Ty.pair (Ty.ABu wb Fb Ty.u8) Ty.u8) Ajo
end Go.Proofs.YtfcpkcehecmcpaaGreat
namespace Go.Proofs.YtfcpkcehecmcpaaGreat
open Go Go.RowKit Go.Pv
noncomputable section
def Ajp (a0 : List (Int × Int)) : Option (List Int) := if a0.length ≤ 1000000000 then some (Ag3 (a0.map Prod.fst)) else none
def Afa (a0 : List Acg) : Option ((List Acg)) :=
 (app 5864062014805 ([] : List Acg) a0).bind fun x55 => some x55
def Ahv (a0 : List BV) (s0 : (List BV) × Int) : Option (((List BV) × Int) ⊕ (((List BV)))) :=
 if decide (s0.2 < (a0.length : Int)) = true then ((idx a0 s0.2).bind fun x0 => (Afa x0.Fields).bind fun x1 => (app 2932031007402 s0.1 ([(⟨x0.Name, x0.Ace, x1⟩ : BV)] : List BV)).bind fun x2 => some (.inl (x2, wr (s0.2 + 1)))) else (some (.inr s0.1))
def Akx (a0 : List BV) : Option ((List BV)) :=
 (Aa4 (Ahv a0) ([], 0)).bind fun o0 => (some o0)
def Afo (a0 : List UInt8) : Option ((List UInt8)) :=
 (app 140737488355328 ([] : List UInt8) a0).bind fun x55 => some x55
def Anm (a0 : Aa6) : Option Aa6 :=
 (Afo a0.Abs).bind fun x44 => some (⟨x44, a0.Result⟩ : Aa6)
def Ah8 (a0 : List UInt8) : Option ((List UInt8)) :=
 (app 140737488355328 ([] : List UInt8) a0).bind fun x55 => some x55
def Amu (a0 : Adh) : Option Adh :=
 (Anm (⟨a0.Sig.Abs, a0.Sig.Result⟩ : Aa6)).bind fun x44 => (Ah8 a0.Code).bind fun x82 => some (⟨a0.Name, (⟨x44.Abs, x44.Result⟩ : Aa6), a0.Locals, x82⟩ : Adh)
def Aic (a0 : LK) (s0 : (List Adh) × Int) : Option (((List Adh) × Int) ⊕ (((List Adh)))) :=
 if decide (s0.2 < (a0.Funcs.length : Int)) = true then ((idx a0.Funcs s0.2).bind fun x0 => (Amu (⟨x0.Name, (⟨x0.Sig.Abs, x0.Sig.Result⟩ : Aa6), x0.Locals, x0.Code⟩ : Adh)).bind fun x1 => (app 1759218604441 s0.1 ([(⟨x1.Name, (⟨x1.Sig.Abs, x1.Sig.Result⟩ : Aa6), x1.Locals, x1.Code⟩ : Adh)] : List Adh)).bind fun x2 => some (.inl (x2, wr (s0.2 + 1)))) else (some (.inr s0.1))
def Aid (a0 : LK) (s0 : (List (List UInt8)) × Int) : Option (((List (List UInt8)) × Int) ⊕ (((List (List UInt8))))) :=
 if decide (s0.2 < (a0.Adm.length : Int)) = true then ((idx a0.Adm s0.2).bind fun x0 => (Ah8 x0).bind fun x1 => (app 5864062014805 s0.1 ([x1] : List (List UInt8))).bind fun x2 => some (.inl (x2, wr (s0.2 + 1)))) else (some (.inr s0.1))
def Alc (a0 : LK) : Option LK :=
 (Akx a0.Classes).bind fun x53 => (Aa4 (Aic a0) ([], 0)).bind fun o0 => ((Aa4 (Aid a0) ([], 0)).bind fun o1 => (some (⟨a0.Name, x53, o0, o1⟩ : LK)))
def Apl (a0 : LK) (s0 : (List BV) × Int) : Option (((List BV) × Int) ⊕ (((List BV)))) :=
 if decide (s0.2 < (a0.Classes.length : Int)) = true then ((idx a0.Classes s0.2).bind fun x0 => (Afa x0.Fields).bind fun x1 => (app 2932031007402 s0.1 ([(⟨x0.Name, x0.Ace, x1⟩ : BV)] : List BV)).bind fun x2 => some (.inl (x2, wr (s0.2 + 1)))) else (some (.inr s0.1))
def Apd (a0 : LK) (s0 : (List Aa6) × Int) : Option (((List Aa6) × Int) ⊕ (((List Aa6)))) :=
 if decide (s0.2 < (a0.Funcs.length : Int)) = true then ((idx a0.Funcs s0.2).bind fun x0 => (Afo x0.Sig.Abs).bind fun x1 => (app 4398046511104 s0.1 ([(⟨x1, x0.Sig.Result⟩ : Aa6)] : List Aa6)).bind fun x2 => some (.inl (x2, wr (s0.2 + 1)))) else (some (.inr s0.1))
def Avi (a0 : LK) (a1 : Int) : Option (GG × Bool) :=
 if decide (a1 < 0) = true then (some ((⟨[], [], 0⟩ : GG), false)) else (if decide (a1 ≥ (a0.Funcs.length : Int)) = true then (some ((⟨[], [], 0⟩ : GG), false)) else ((Aa4 (Apl a0) ([], 0)).bind fun o0 => ((Aa4 (Apd a0) ([], 0)).bind fun o1 => (some ((⟨o0, o1, a1⟩ : GG), true)))))
def Ajd (a0 : List UInt8) (s0 : Int) : Option (Int ⊕ (Bool ⊕ Unit)) :=
 if decide (s0 < (a0.length : Int)) = true then ((idx a0 s0).bind fun x0 => (if decide ((x0.toNat : Int) ≥ 97) = true then (if decide ((x0.toNat : Int) ≤ 122) = true then (some true) else (if decide ((x0.toNat : Int) ≥ 65) = true then (some (decide ((x0.toNat : Int) ≤ 90))) else (some false))) else (if decide ((x0.toNat : Int) ≥ 65) = true then (some (decide ((x0.toNat : Int) ≤ 90))) else (some false))).bind fun o0 => (if o0 = true then (some (.inl (wr (s0 + 1)))) else (if decide (s0 > 0) = true then (if decide ((x0.toNat : Int) ≥ 48) = true then (if decide ((x0.toNat : Int) ≤ 57) = true then (some (.inl (wr (s0 + 1)))) else (if ((x0.toNat : Int) == 95) = true then (some (.inl (wr (s0 + 1)))) else (some (.inr (.inl false))))) else (if ((x0.toNat : Int) == 95) = true then (some (.inl (wr (s0 + 1)))) else (some (.inr (.inl false))))) else (some (.inr (.inl false)))))) else (some (.inr (.inr (()))))
def Aou (a0 : List UInt8) : Option Bool :=
 if ((a0.length : Int) == 0) = true then (some false) else (if decide ((a0.length : Int) > 24) = true then (some false) else (((Aa4 (Ajd a0) 0 : Option (Bool ⊕ Unit))).bind fun o0 => (match o0 with | .inl p0 => (some p0) | .inr p1 => (some true))))
def Ave  : Option ((List (List UInt8))) :=
 some ([[116, 111, 112], [105, 110, 116], [98, 111, 111, 108], [110, 117, 108, 108], [105, 110, 116, 115], [97, 110, 121]] : List (List UInt8))
def Ady (a0 : List (List UInt8)) (a1 : List UInt8) (s0 : Int) : Option (Int ⊕ (Int ⊕ Unit)) :=
 if decide (s0 < (a0.length : Int)) = true then ((idx a0 s0).bind fun x0 => if (a1 == x0) = true then (some (.inr (.inl s0))) else (some (.inl (wr (s0 + 1))))) else (some (.inr (.inr (()))))
def Ah6 (a0 : List (List UInt8)) (a1 : List UInt8) : Option Int :=
 ((Aa4 (Ady a0 a1) 0 : Option (Int ⊕ Unit))).bind fun o0 => (match o0 with | .inl p0 => (some p0) | .inr p1 => (some (-1)))
def Aei (a0 : List (List UInt8)) (a1 : List UInt8) : Option Bool :=
 (Ah6 a0 a1).bind fun x14 => some (decide (x14 ≥ 0))
def Aqq (a0 : BV) (a1 : BV) : Option Bool :=
 some (a0.Name == a1.Name)
def Adb (a0 : List BV) (a1 : BV) (s0 : Int) : Option (Int ⊕ (Int ⊕ Unit)) :=
 if decide (s0 < (a0.length : Int)) = true then ((idx a0 s0).bind fun x0 => (Aqq x0 (⟨a1.Name, a1.Ace, a1.Fields⟩ : BV)).bind fun x1 => if x1 = true then (some (.inr (.inl s0))) else (some (.inl (wr (s0 + 1))))) else (some (.inr (.inr (()))))
def Ae1 (a0 : List BV) (a1 : BV) : Option Int :=
 ((Aa4 (Adb a0 a1) 0 : Option (Int ⊕ Unit))).bind fun o0 => (match o0 with | .inl p0 => (some p0) | .inr p1 => (some (-1)))
def Ad1 (a0 : List BV) (a1 : BV) : Option Bool :=
 (Ae1 a0 (⟨a1.Name, a1.Ace, a1.Fields⟩ : BV)).bind fun x20 => some (decide (x20 ≥ 0))
def Aio (x0 : BV) (s0 : (List (List UInt8)) × Int) : Option (((List (List UInt8)) × Int) ⊕ (((List (List UInt8))))) :=
 if decide (s0.2 < (x0.Fields.length : Int)) = true then ((idx x0.Fields s0.2).bind fun x1 => (app 8796093022208 s0.1 ([x1.Name] : List (List UInt8))).bind fun x2 => some (.inl (x2, wr (s0.2 + 1)))) else (some (.inr s0.1))
def Anw (a0 : Int) (a1 : List BV) (a2 : List (List UInt8)) : Option (Bool × (List (List UInt8))) :=
 (idx a1 a0).bind fun x0 => (Aa4 (Aio x0) (a2, 0)).bind fun o0 => (some (true, o0))
def Afr (a0 : List BV) (a1 : List BV) (s0 : (List (List UInt8)) × Int) : Option (((List (List UInt8)) × Int) ⊕ (((List (List UInt8))) ⊕ ((List (List UInt8))))) :=
 if decide (s0.2 ≥ 0) = true then (if decide (s0.2 < (a0.length : Int)) = true then ((Anw s0.2 a1 s0.1).bind fun x0 => if x0.1 = true then ((idx a0 s0.2).bind fun x1 => if decide (x1.Ace ≥ s0.2) = true then (some (.inr (.inl x0.2))) else (some (.inl (x0.2, x1.Ace)))) else (some (.inr (.inr (x0.2))))) else (some (.inr (.inr (s0.1))))) else (some (.inr (.inr (s0.1))))
def Aje (a0 : List BV) (a1 : Int) (a2 : List BV) (a3 : List (List UInt8)) : Option ((List (List UInt8))) :=
 ((Aa4 (Afr a0 a2) (a3, a1) : Option (((List (List UInt8))) ⊕ ((List (List UInt8)))))).bind fun o0 => (match o0 with | .inl p0 => (some p0) | .inr p1 => (some p1))
def Akn (a0 : List BV) (a1 : UInt8) : Option Int :=
 if decide ((a1.toNat : Int) < 16) = true then (some (-1)) else (if decide (((Aiq ((a1.toNat : Int) - 16)).toNat : Int) ≥ (a0.length : Int)) = true then (some (-1)) else (some ((Aiq ((a1.toNat : Int) - 16)).toNat : Int)))
def Arr (a0 : List BV) (a1 : UInt8) : Option Bool :=
 if ((a1.toNat : Int) == 1) = true then (some true) else (if ((a1.toNat : Int) == 2) = true then (some true) else (if ((a1.toNat : Int) == 4) = true then (some true) else (if ((a1.toNat : Int) == 5) = true then (some true) else ((Akn a0 a1).bind fun x46 => some (decide (x46 ≥ 0))))))
def Ajj (a0 : List BV) (x0 : BV) (s0 : (List (List UInt8)) × Int) : Option (((List (List UInt8)) × Int) ⊕ (Int ⊕ ((List (List UInt8))))) :=
 if decide (s0.2 < (x0.Fields.length : Int)) = true then ((idx x0.Fields s0.2).bind fun x1 => (Aou x1.Name).bind fun x2 => if (!x2) = true then (some (.inr (.inl 6))) else ((Aei s0.1 x1.Name).bind fun x3 => if x3 = true then (some (.inr (.inl 20))) else ((Arr a0 x1.Akl).bind fun x4 => if (!x4) = true then (some (.inr (.inl 22))) else ((app 8796093022208 s0.1 ([x1.Name] : List (List UInt8))).bind fun x5 => some (.inl (x5, wr (s0.2 + 1))))))) else (some (.inr (.inr (s0.1))))
def Aqz (a0 : List BV) (a1 : Int) : Option Int :=
 (idx a0 a1).bind fun x0 => (Aje a0 x0.Ace a0 []).bind fun x1 => (idx a0 a1).bind fun x2 => ((Aa4 (Ajj a0 x2) (x1, 0) : Option (Int ⊕ ((List (List UInt8)))))).bind fun o0 => (match o0 with | .inl p0 => (some p0) | .inr p1 => (if decide ((p1.length : Int) > 32) = true then (some 4) else (some 0)))
def Akc (a0 : List BV) (s0 : Int) : Option (Int ⊕ ((Int × Int) ⊕ Unit)) :=
 if decide (s0 < (a0.length : Int)) = true then ((idx a0 s0).bind fun x0 => (if decide (s0 ≥ 32) = true then (some 4) else ((Aou x0.Name).bind fun x1 => if (!x1) = true then (some 6) else ((Ave).bind fun x2 => (Aei x2 x0.Name).bind fun x3 => if x3 = true then (some 6) else ((Aok a0 0 s0).bind fun x4 => (Ad1 x4 (⟨x0.Name, x0.Ace, x0.Fields⟩ : BV)).bind fun x5 => if x5 = true then (some 20) else (if decide (x0.Ace < (-1)) = true then (some 21) else (if decide (x0.Ace ≥ s0) = true then (some 21) else ((Aqz a0 s0).bind fun x6 => some x6))))))).bind fun o0 => (if (o0 != 0) = true then (some (.inr (.inl (s0, o0)))) else (some (.inl (wr (s0 + 1)))))) else (some (.inr (.inr (()))))
def Aqh (a0 : List BV) : Option (Int × Int) :=
 ((Aa4 (Akc a0) 0 : Option ((Int × Int) ⊕ Unit))).bind fun o0 => (match o0 with | .inl p0 => (some p0) | .inr p1 => (some (0, 0)))
def Ai9 (a0 : List BV) (a1 : UInt8) : Option Bool :=
 if decide ((a1.toNat : Int) ≤ 5) = true then (some true) else ((Akn a0 a1).bind fun x22 => some (decide (x22 ≥ 0)))
def Ari (a0 : List BV) (a1 : UInt8) : Option Bool :=
 (Ai9 a0 a1).bind fun x22 => if x22 = true then (if ((a1.toNat : Int) != 0) = true then (some ((a1.toNat : Int) != 3)) else (some false)) else (some false)
def An7 (a0 : UInt8) (a1 : GG) : Option Bool :=
 (Ari a1.Classes a0).bind fun x16 => some (!x16)
def Adn (a0 : List UInt8) (a1 : GG) (s0 : Int) : Option (Int ⊕ (Int ⊕ Unit)) :=
 if decide (s0 < (a0.length : Int)) = true then ((idx a0 s0).bind fun x0 => (An7 x0 (⟨a1.Classes, a1.OS, a1.Fn⟩ : GG)).bind fun x1 => if x1 = true then (some (.inr (.inl s0))) else (some (.inl (wr (s0 + 1))))) else (some (.inr (.inr (()))))
def Afj (a0 : List UInt8) (a1 : GG) : Option Int :=
 ((Aa4 (Adn a0 a1) 0 : Option (Int ⊕ Unit))).bind fun o0 => (match o0 with | .inl p0 => (some p0) | .inr p1 => (some (-1)))
def Ad6 (a0 : List UInt8) (a1 : GG) : Option Bool :=
 (Afj a0 (⟨a1.Classes, a1.OS, a1.Fn⟩ : GG)).bind fun x20 => some (decide (x20 ≥ 0))
def Auk (a0 : Int) : Option (B0 × Int) :=
 if decide (a0 < 0) = true then (some ((⟨0, 0, (Vector.replicate 24 (0 : UInt8))⟩ : B0), 1)) else (if decide (a0 > 16) = true then (some ((⟨0, 0, (Vector.replicate 24 (0 : UInt8))⟩ : B0), 1)) else (some ((⟨a0, 0, (Vector.replicate 24 (0 : UInt8))⟩ : B0), 0)))
def Amd (a0 : List BV) (a1 : List UInt8) (s0 : (Vector UInt8 24) × Int) : Option (((Vector UInt8 24) × Int) ⊕ ((B0 × Int) ⊕ ((Vector UInt8 24)))) :=
 if decide (s0.2 < (a1.length : Int)) = true then ((idx a1 s0.2).bind fun x0 => (Ai9 a0 x0).bind fun x1 => if (!x1) = true then (some (.inr (.inl ((⟨0, 0, (Vector.replicate 24 (0 : UInt8))⟩ : B0), 1)))) else (if ((x0.toNat : Int) == 0) = true then (some (.inr (.inl ((⟨0, 0, (Vector.replicate 24 (0 : UInt8))⟩ : B0), 1)))) else (if ((x0.toNat : Int) == 3) = true then (some (.inr (.inl ((⟨0, 0, (Vector.replicate 24 (0 : UInt8))⟩ : B0), 1)))) else ((idx s0.1.toList s0.2).bind fun x2 => some (.inl ((Amj s0.1 s0.2 x0), wr (s0.2 + 1))))))) else (some (.inr (.inr (s0.1))))
def Apb (a0 : List BV) (a1 : List UInt8) (a2 : Int) : Option (B0 × Int) :=
 (Auk a2).bind fun x38 => if (x38.2 != 0) = true then (some ((⟨0, 0, (Vector.replicate 24 (0 : UInt8))⟩ : B0), 1)) else (if decide ((a1.length : Int) > 8) = true then (some ((⟨0, 0, (Vector.replicate 24 (0 : UInt8))⟩ : B0), 1)) else (if decide ((a1.length : Int) > a2) = true then (some ((⟨0, 0, (Vector.replicate 24 (0 : UInt8))⟩ : B0), 1)) else (((Aa4 (Amd a0 a1) (x38.1.Slots, 0) : Option ((B0 × Int) ⊕ ((Vector UInt8 24))))).bind fun o0 => (match o0 with | .inl p0 => (some p0) | .inr p1 => (some ((⟨x38.1.Locals, x38.1.Height, p1⟩ : B0), 0))))))
def Ao6 (a0 : GG) (s0 : Int) : Option (Int ⊕ (Int ⊕ Unit)) :=
 if decide (s0 < (a0.OS.length : Int)) = true then ((idx a0.OS s0).bind fun x0 => if decide ((x0.Abs.length : Int) > 8) = true then (some (.inr (.inl 4))) else ((Ad6 x0.Abs (⟨a0.Classes, a0.OS, a0.Fn⟩ : GG)).bind fun x1 => if x1 = true then (some (.inr (.inl 22))) else (if ((x0.Result.toNat : Int) != 0) = true then ((An7 x0.Result (⟨a0.Classes, a0.OS, a0.Fn⟩ : GG)).bind fun x2 => if x2 = true then (some (.inr (.inl 22))) else (some (.inl (wr (s0 + 1))))) else (some (.inl (wr (s0 + 1))))))) else (some (.inr (.inr (()))))
def Ato (a0 : GG) (a1 : Int) : Option Int :=
 (Aqh a0.Classes).bind fun x57 => if (x57.2 != 0) = true then (some x57.2) else (if decide ((a0.OS.length : Int) > 64) = true then (some 4) else (((Aa4 (Ao6 a0) 0 : Option (Int ⊕ Unit))).bind fun o0 => (match o0 with | .inl p0 => (some p0) | .inr p1 => (if decide (a0.Fn < 0) = true then (some 71) else (if decide (a0.Fn ≥ (a0.OS.length : Int)) = true then (some 71) else ((idx a0.OS a0.Fn).bind fun x0 => (Apb a0.Classes x0.Abs a1).bind fun x1 => some x1.2))))))
def Aqj (a0 : UInt8) : Option (Int × Int) :=
 if ((a0.toNat : Int) == 1) = true then (some (4, 0)) else ((if ((a0.toNat : Int) == 19) = true then (some true) else (some ((a0.toNat : Int) == 20))).bind fun o0 => (if o0 = true then (some (2, 0)) else ((if ((a0.toNat : Int) == 24) = true then (some true) else (some ((a0.toNat : Int) == 25))).bind fun o1 => (if o1 = true then (some (1, 1)) else ((if ((a0.toNat : Int) == 2) = true then (some true) else (if ((a0.toNat : Int) == 4) = true then (some true) else (some ((a0.toNat : Int) == 5)))).bind fun o2 => (if o2 = true then (some (1, 0)) else ((if ((a0.toNat : Int) == 21) = true then (some true) else (if ((a0.toNat : Int) == 23) = true then (some true) else (if ((a0.toNat : Int) == 30) = true then (some true) else (if ((a0.toNat : Int) == 31) = true then (some true) else (some ((a0.toNat : Int) == 32)))))).bind fun o3 => (if o3 = true then (some (1, 0)) else (some (0, 0))))))))))
def Alw (a0 : UInt8) : Option Int :=
 if decide ((a0.toNat : Int) ≥ 34) = true then (some 0) else ((Aqj a0).bind fun x26 => some (wr ((wr (1 + x26.1)) + x26.2)))
def Ai0 (x0 : List UInt8) (s0 : Int × Int) : Option ((Int × Int) ⊕ Int) :=
 if decide (s0.2 < (x0.length : Int)) = true then ((idx x0 s0.2).bind fun x1 => some (.inl (bOr .i64 (A98 .i64 s0.1 8) (x1.toNat : Int), wr (s0.2 + 1)))) else (some (.inr s0.1))
def Ama (a0 : Int) (a1 : List UInt8) : Option (Int × (List UInt8)) :=
 (Aok a1 0 a0).bind fun x0 => (Aa4 (Ai0 x0) (0, 0)).bind fun o0 => ((Aok a1 a0 (a1.length : Int)).bind fun x1 => if (a0 == 4) = true then (some (wr (IntKind.i32.wrap o0), x1)) else (some (o0, x1)))
def Am4 (a0 : List UInt8) (a1 : Int) : Option (CO × Int) :=
 if decide (a1 < 0) = true then (some ((⟨0, 0, 0, 0⟩ : CO), 1)) else (if decide (a1 > (a0.length : Int)) = true then (some ((⟨0, 0, 0, 0⟩ : CO), 1)) else (if (a1 == (a0.length : Int)) = true then (some ((⟨0, 0, 0, 0⟩ : CO), 2)) else ((idx a0 a1).bind fun x0 => (Alw x0).bind fun x1 => if (x1 == 0) = true then (some ((⟨0, 0, 0, 0⟩ : CO), 40)) else ((idx a0 a1).bind fun x2 => (Alw x2).bind fun x3 => if decide ((wr ((a0.length : Int) - a1)) < x3) = true then (some ((⟨0, 0, 0, 0⟩ : CO), 2)) else ((idx a0 a1).bind fun x4 => (Aok a0 (wr (a1 + 1)) (a0.length : Int)).bind fun x5 => (Aqj x4).bind fun x6 => (Ama x6.1 x5).bind fun x7 => (Ama x6.2 x7.2).bind fun x8 => if ((x4.toNat : Int) == 2) = true then (if decide (x7.1 > 1) = true then (some ((⟨0, 0, 0, 0⟩ : CO), 5)) else (some ((⟨a1, x4, x7.1, x8.1⟩ : CO), 0))) else (some ((⟨a1, x4, x7.1, x8.1⟩ : CO), 0)))))))
def Aeu (a0 : Aae) (a1 : CO) (s0 : (List (Int × Int)) × Int) : Option (((List (Int × Int)) × Int) ⊕ ((Bool × Aae) ⊕ ((List (Int × Int))))) :=
 (Alw a1.Op).bind fun x0 => if decide (s0.2 < (wr (a1.At + x0))) = true then (if (Adq s0.1 s0.2).isSome = true then (if (((Adq s0.1 s0.2).getD (0 : Int)) != a1.At) = true then (some (.inr (.inl (false, (⟨(⟨a0.e.Classes, a0.e.OS, a0.e.Fn⟩ : GG), a0.code, a0.frames, a0.fresh, s0.1, a0.Ade⟩ : Aae))))) else (some (.inl ((Ae7 s0.1 s0.2 a1.At), wr (s0.2 + 1))))) else (some (.inl ((Ae7 s0.1 s0.2 a1.At), wr (s0.2 + 1))))) else (some (.inr (.inr (s0.1))))
def Ald (a0 : Aae) (a1 : CO) : Option (Bool × Aae) :=
 ((Aa4 (Aeu a0 a1) (a0.taken, a1.At) : Option ((Bool × Aae) ⊕ ((List (Int × Int)))))).bind fun o0 => (match o0 with | .inl p0 => (some p0) | .inr p1 => (some (true, (⟨(⟨a0.e.Classes, a0.e.OS, a0.e.Fn⟩ : GG), a0.code, a0.frames, a0.fresh, p1, a0.Ade⟩ : Aae))))
def Aja (a0 : UInt8) (a1 : GG) : Option Bool :=
 (Ai9 a1.Classes a0).bind fun x24 => if x24 = true then (if ((a0.toNat : Int) != 0) = true then (some ((a0.toNat : Int) != 3)) else (some false)) else (some false)
def Aju (a0 : GG) (x0 : Aa6) (s0 : Int) : Option (Int ⊕ (Bool ⊕ Unit)) :=
 if decide (s0 < (x0.Abs.length : Int)) = true then ((idx x0.Abs s0).bind fun x1 => (Aja x1 (⟨a0.Classes, a0.OS, a0.Fn⟩ : GG)).bind fun x2 => if (!x2) = true then (some (.inr (.inl false))) else (some (.inl (wr (s0 + 1))))) else (some (.inr (.inr (()))))
def Ajq (a0 : GG) (s0 : Int) : Option (Int ⊕ (Bool ⊕ Unit)) :=
 if decide (s0 < (a0.OS.length : Int)) = true then ((idx a0.OS s0).bind fun x0 => ((if decide ((x0.Abs.length : Int) > 8) = true then (some (.inl false)) else (if ((x0.Result.toNat : Int) != 0) = true then ((Aja x0.Result (⟨a0.Classes, a0.OS, a0.Fn⟩ : GG)).bind fun x1 => if (!x1) = true then (some (.inl false)) else (some (.inr ((true, (!x1)))))) else (some (.inr ((false, false))))) : Option (Bool ⊕ (Bool × Bool)))).bind fun o0 => (match o0 with | .inl p0 => (some (.inr (.inl p0))) | .inr p1 => (((Aa4 (Aju a0 x0) 0 : Option (Bool ⊕ Unit))).bind fun o1 => (match o1 with | .inl p2 => (some (.inr (.inl p2))) | .inr p3 => (some (.inl (wr (s0 + 1)))))))) else (some (.inr (.inr (()))))
def Ang (a0 : GG) : Option Bool :=
 (Aqh a0.Classes).bind fun x27 => if (x27.2 != 0) = true then (some false) else (if decide ((a0.OS.length : Int) > 64) = true then (some false) else (if decide (a0.Fn < 0) = true then (some false) else (if decide (a0.Fn ≥ (a0.OS.length : Int)) = true then (some false) else (((Aa4 (Ajq a0) 0 : Option (Bool ⊕ Unit))).bind fun o0 => (match o0 with | .inl p0 => (some p0) | .inr p1 => (some true))))))
def Ak4 (a0 : B0) : Option Bool :=
 if decide (a0.Locals ≥ 0) = true then (if decide (a0.Locals ≤ 16) = true then (if decide (a0.Height ≥ 0) = true then (some (decide (a0.Height ≤ (wr (24 - a0.Locals))))) else (some false)) else (some false)) else (some false)
def Am1 (a0 : B0) : Option B0 :=
 (Aok (Vector.replicate 24 (0 : UInt8)).toList 0 (wr (a0.Locals + a0.Height))).bind fun x82 => some (⟨a0.Locals, a0.Height, (vcp (Vector.replicate 24 (0 : UInt8)) a0.Slots ((wr (a0.Locals + a0.Height)).toNat))⟩ : B0)
def Akq (a0 : List BV) (a1 : B0) (s0 : Int) : Option (Int ⊕ (Int ⊕ Unit)) :=
 if decide (s0 < 24) = true then ((idx a1.Slots.toList s0).bind fun x0 => (Ai9 a0 x0).bind fun x1 => if (!x1) = true then (some (.inr (.inl 22))) else (some (.inl (wr (s0 + 1))))) else (some (.inr (.inr (()))))
def Alv (a0 : List BV) (a1 : B0) : Option Int :=
 (Ak4 (⟨a1.Locals, a1.Height, a1.Slots⟩ : B0)).bind fun x34 => if (!x34) = true then (some 32) else ((Am1 (⟨a1.Locals, a1.Height, a1.Slots⟩ : B0)).bind fun x43 => if (!((x43.Locals == a1.Locals) && ((x43.Height == a1.Height) && ((x43.Slots == a1.Slots) && true)))) = true then (some 32) else (((Aa4 (Akq a0 a1) 0 : Option (Int ⊕ Unit))).bind fun o0 => (match o0 with | .inl p0 => (some p0) | .inr p1 => (some 0))))
def Am5 (a0 : UInt8) : Option BQ :=
 some (⟨4, a0⟩ : BQ)
abbrev Abc : A7j := ⟨214, 203, 204, 215, 205, 206, 216, 218, 47, 224, 142, 4⟩
def A49 (x78 : BQ) (x87 : BQ) (x96 : BQ) : List (Af0 BQ) := List.replicate 34 .nil
def A4y (x78 : BQ) (x87 : BQ) (x96 : BQ) : List (Af0 BQ) := (A49 x78 x87 x96).set 0 (.fixed [] (.const []))
def A47 (x78 : BQ) (x87 : BQ) (x96 : BQ) : List (Af0 BQ) := (A4y x78 x87 x96).set 19 (.fixed [] (.const []))
def A48 (x78 : BQ) (x87 : BQ) (x96 : BQ) : List (Af0 BQ) := (A47 x78 x87 x96).set 32 (.fixed [] (.const []))
def A41 (x78 : BQ) (x87 : BQ) (x96 : BQ) : List (Af0 BQ) := (A48 x78 x87 x96).set 1 (.fixed [] (.const ([(1 : UInt8)] : List UInt8)))
def A4q (x78 : BQ) (x87 : BQ) (x96 : BQ) : List (Af0 BQ) := (A41 x78 x87 x96).set 2 (.fixed [] (.const ([(2 : UInt8)] : List UInt8)))
def A5b (x78 : BQ) (x87 : BQ) (x96 : BQ) : List (Af0 BQ) := (A4q x78 x87 x96).set 3 (.fixed [] (.const ([(3 : UInt8)] : List UInt8)))
def A4o (x78 : BQ) (x87 : BQ) (x96 : BQ) : List (Af0 BQ) := (A5b x78 x87 x96).set 4 (.fixed [] (.const ([(0 : UInt8)] : List UInt8)))
def A4p (x78 : BQ) (x87 : BQ) (x96 : BQ) : List (Af0 BQ) := (A4o x78 x87 x96).set 5 (.fixed ([(⟨1, 0⟩ : BQ)] : List BQ) (.const []))
def A5i (x78 : BQ) (x87 : BQ) (x96 : BQ) : List (Af0 BQ) := (A4p x78 x87 x96).set 6 (.fixed ([(⟨0, 0⟩ : BQ)] : List BQ) (.const []))
def A2t (x78 : BQ) (x87 : BQ) (x96 : BQ) : List (Af0 BQ) := (A5i x78 x87 x96).set 7 (.fixed ([(⟨0, 0⟩ : BQ)] : List BQ) (.dup))
def A2w (x78 : BQ) (x87 : BQ) (x96 : BQ) : List (Af0 BQ) := (A2t x78 x87 x96).set 8 (.fixed ([(⟨0, 0⟩ : BQ), (⟨0, 0⟩ : BQ)] : List BQ) (.swap))
def A07 (x78 : BQ) (x87 : BQ) (x96 : BQ) : List (Af0 BQ) := (A2w x78 x87 x96).set 9 (.fixed ([(⟨x78.kind, x78.t⟩ : BQ), (⟨x78.kind, x78.t⟩ : BQ)] : List BQ) (.const ([(1 : UInt8)] : List UInt8)))
def A0z (x78 : BQ) (x87 : BQ) (x96 : BQ) : List (Af0 BQ) := (A07 x78 x87 x96).set 10 (.fixed ([(⟨x78.kind, x78.t⟩ : BQ), (⟨x78.kind, x78.t⟩ : BQ)] : List BQ) (.const ([(1 : UInt8)] : List UInt8)))
def A03 (x78 : BQ) (x87 : BQ) (x96 : BQ) : List (Af0 BQ) := (A0z x78 x87 x96).set 11 (.fixed ([(⟨x78.kind, x78.t⟩ : BQ), (⟨x78.kind, x78.t⟩ : BQ)] : List BQ) (.const ([(1 : UInt8)] : List UInt8)))
def A1b (x78 : BQ) (x87 : BQ) (x96 : BQ) : List (Af0 BQ) := (A03 x78 x87 x96).set 12 (.fixed ([(⟨x78.kind, x78.t⟩ : BQ), (⟨x78.kind, x78.t⟩ : BQ)] : List BQ) (.const ([(1 : UInt8)] : List UInt8)))
def Avn (x78 : BQ) (x87 : BQ) (x96 : BQ) : List (Af0 BQ) := (A1b x78 x87 x96).set 13 (.fixed ([(⟨x78.kind, x78.t⟩ : BQ), (⟨x78.kind, x78.t⟩ : BQ)] : List BQ) (.const ([(1 : UInt8)] : List UInt8)))
def A18 (x78 : BQ) (x87 : BQ) (x96 : BQ) : List (Af0 BQ) := (Avn x78 x87 x96).set 14 (.fixed ([(⟨x78.kind, x78.t⟩ : BQ)] : List BQ) (.const ([(1 : UInt8)] : List UInt8)))
def A1v (x78 : BQ) (x87 : BQ) (x96 : BQ) : List (Af0 BQ) := (A18 x78 x87 x96).set 15 (.fixed ([(⟨x78.kind, x78.t⟩ : BQ), (⟨x78.kind, x78.t⟩ : BQ)] : List BQ) (.const ([(2 : UInt8)] : List UInt8)))
def Avp (x78 : BQ) (x87 : BQ) (x96 : BQ) : List (Af0 BQ) := (A1v x78 x87 x96).set 16 (.fixed ([(⟨3, 0⟩ : BQ), (⟨3, 0⟩ : BQ)] : List BQ) (.const ([(2 : UInt8)] : List UInt8)))
def A13 (x78 : BQ) (x87 : BQ) (x96 : BQ) : List (Af0 BQ) := (Avp x78 x87 x96).set 17 (.fixed ([(⟨x87.kind, x87.t⟩ : BQ)] : List BQ) (.const ([(2 : UInt8)] : List UInt8)))
def A15 (x78 : BQ) (x87 : BQ) (x96 : BQ) : List (Af0 BQ) := (A13 x78 x87 x96).set 18 (.fixed ([(⟨2, 0⟩ : BQ), (⟨2, 0⟩ : BQ)] : List BQ) (.const ([(2 : UInt8)] : List UInt8)))
def A1y (x78 : BQ) (x87 : BQ) (x96 : BQ) : List (Af0 BQ) := (A15 x78 x87 x96).set 20 (.fixed ([(⟨x87.kind, x87.t⟩ : BQ)] : List BQ) (.const []))
def A2y (x78 : BQ) (x87 : BQ) (x96 : BQ) : List (Af0 BQ) := (A1y x78 x87 x96).set 21 (.call)
def A1m (x78 : BQ) (x87 : BQ) (x96 : BQ) : List (Af0 BQ) := (A2y x78 x87 x96).set 22 (.ret (.const []))
def A2o (x78 : BQ) (x87 : BQ) (x96 : BQ) : List (Af0 BQ) := (A1m x78 x87 x96).set 23 (.classed [] true)
def A2q (x78 : BQ) (x87 : BQ) (x96 : BQ) : List (Af0 BQ) := (A2o x78 x87 x96).set 24 (.field false)
def Avh (x78 : BQ) (x87 : BQ) (x96 : BQ) : List (Af0 BQ) := (A2q x78 x87 x96).set 25 (.field true)
def Avw (x78 : BQ) (x87 : BQ) (x96 : BQ) : List (Af0 BQ) := (Avh x78 x87 x96).set 26 (.fixed ([(⟨x78.kind, x78.t⟩ : BQ)] : List BQ) (.const ([(4 : UInt8)] : List UInt8)))
def Avq (x78 : BQ) (x87 : BQ) (x96 : BQ) : List (Af0 BQ) := (Avw x78 x87 x96).set 27 (.fixed ([(⟨x96.kind, x96.t⟩ : BQ)] : List BQ) (.const ([(1 : UInt8)] : List UInt8)))
def A1q (x78 : BQ) (x87 : BQ) (x96 : BQ) : List (Af0 BQ) := (Avq x78 x87 x96).set 28 (.fixed ([(⟨x96.kind, x96.t⟩ : BQ), (⟨x78.kind, x78.t⟩ : BQ)] : List BQ) (.const ([(1 : UInt8)] : List UInt8)))
def A1i (x78 : BQ) (x87 : BQ) (x96 : BQ) : List (Af0 BQ) := (A1q x78 x87 x96).set 29 (.fixed ([(⟨x96.kind, x96.t⟩ : BQ), (⟨x78.kind, x78.t⟩ : BQ), (⟨x78.kind, x78.t⟩ : BQ)] : List BQ) (.const []))
def A2g (x78 : BQ) (x87 : BQ) (x96 : BQ) : List (Af0 BQ) := (A1i x78 x87 x96).set 30 (.classed ([(⟨2, 0⟩ : BQ)] : List BQ) true)
def A1w (x78 : BQ) (x87 : BQ) (x96 : BQ) : List (Af0 BQ) := (A2g x78 x87 x96).set 31 (.classed ([(⟨2, 0⟩ : BQ)] : List BQ) false)
def Atn (x78 : BQ) (x87 : BQ) (x96 : BQ) : List (Af0 BQ) := (A1w x78 x87 x96).set 33 (.fixed ([(⟨x78.kind, x78.t⟩ : BQ)] : List BQ) (.const []))
def step_table  : Option ((List (Af0 BQ))) :=
 (Am5 (1 : UInt8)).bind fun x78 => (Am5 (2 : UInt8)).bind fun x87 => (Am5 (4 : UInt8)).bind fun x96 => some (Atn x78 x87 x96)
def Asb (a0 : GG) (a1 : CO) (a2 : List BQ) (a3 : Gv) : Option (Ac6 × Int) :=
 some ((⟨a2, a3⟩ : Ac6), 0)
def Anp (x0 : Aa6) (s0 : (List BQ) × Int) : Option (((List BQ) × Int) ⊕ (((List BQ)))) :=
 if decide (s0.2 < (x0.Abs.length : Int)) = true then ((idx x0.Abs s0.2).bind fun x1 => (Am5 x1).bind fun x2 => (app 8796093022208 s0.1 ([x2] : List BQ)).bind fun x3 => some (.inl (x3, wr (s0.2 + 1)))) else (some (.inr s0.1))
def Axx (a0 : GG) (a1 : CO) : Option (Ac6 × Int) :=
 if decide (a1.A < 0) = true then (some ((⟨[], Gv.nil⟩ : Ac6), 71)) else (if decide (a1.A ≥ (a0.OS.length : Int)) = true then (some ((⟨[], Gv.nil⟩ : Ac6), 71)) else ((idx a0.OS a1.A).bind fun x0 => (Aa4 (Anp x0) ([], 0)).bind fun o0 => (if ((x0.Result.toNat : Int) == 0) = true then (some ((⟨o0, (Gv.const ([] : List UInt8))⟩ : Ac6), 0)) else (some ((⟨o0, (Gv.const ([x0.Result] : List UInt8))⟩ : Ac6), 0)))))
def Aue (a0 : UInt8) : Option ((List BQ)) :=
 if ((a0.toNat : Int) == 0) = true then (some ([] : List BQ)) else ((Am5 a0).bind fun x32 => some ([x32] : List BQ))
def Asd (a0 : GG) (a1 : CO) (a2 : Gv) : Option (Ac6 × Int) :=
 (idx a0.OS a0.Fn).bind fun x0 => (Aue x0.Result).bind fun x1 => some ((⟨x1, a2⟩ : Ac6), 0)
def Atu (a0 : Int) : Option UInt8 :=
 some (Aiq (16 + ((Aiq a0).toNat : Int)))
def Anh (a0 : GG) (a1 : CO) (a2 : Bool) (a3 : List BQ) : Option (Ac6 × Int) :=
 if decide (a1.A < 0) = true then (some ((⟨[], Gv.nil⟩ : Ac6), 72)) else (if decide (a1.A ≥ (a0.Classes.length : Int)) = true then (some ((⟨[], Gv.nil⟩ : Ac6), 72)) else (if (!a2) = true then (some ((⟨a3, (Gv.const ([(2 : UInt8)] : List UInt8))⟩ : Ac6), 0)) else ((Atu a1.A).bind fun x0 => some ((⟨a3, (Gv.const ([x0] : List UInt8))⟩ : Ac6), 0))))
def Ap5 (a0 : Int) (a1 : List Int) : Option (Bool × (List Int)) :=
 (app 17592186044416 a1 ([a0] : List Int)).bind fun x32 => some (true, x32)
def Aej (a0 : List BV) (s0 : (List Int) × Int) : Option (((List Int) × Int) ⊕ (((List Int)) ⊕ ((List Int)))) :=
 if decide (s0.2 ≥ 0) = true then (if decide (s0.2 < (a0.length : Int)) = true then ((Ap5 s0.2 s0.1).bind fun x0 => if x0.1 = true then ((idx a0 s0.2).bind fun x1 => if decide (x1.Ace ≥ s0.2) = true then (some (.inr (.inl x0.2))) else (some (.inl (x0.2, x1.Ace)))) else (some (.inr (.inr (x0.2))))) else (some (.inr (.inr (s0.1))))) else (some (.inr (.inr (s0.1))))
def Aht (a0 : List BV) (a1 : Int) (a2 : List Int) : Option ((List Int)) :=
 ((Aa4 (Aej a0) (a2, a1) : Option (((List Int)) ⊕ ((List Int))))).bind fun o0 => (match o0 with | .inl p0 => (some p0) | .inr p1 => (some p1))
def Ahl (a0 : List BV) (x34 : (List Int)) (s0 : (List Acg) × Int) : Option (((List Acg) × Int) ⊕ (((List Acg)))) :=
 if decide (s0.2 ≥ 0) = true then ((idx x34 s0.2).bind fun x0 => (idx a0 x0).bind fun x1 => (app 5864062014805 s0.1 x1.Fields).bind fun x2 => some (.inl (x2, wr (s0.2 - 1)))) else (some (.inr s0.1))
def Alq (a0 : List BV) (a1 : Int) : Option ((List Acg)) :=
 (Aht a0 a1 []).bind fun x34 => (Aa4 (Ahl a0 x34) ([], wr ((x34.length : Int) - 1))).bind fun o0 => (some o0)
def Ar6 (a0 : GG) (a1 : CO) (a2 : Bool) : Option (Ac6 × Int) :=
 (Alq a0.Classes a1.A).bind fun x55 => if decide (a1.A < 0) = true then (some ((⟨[], Gv.nil⟩ : Ac6), 72)) else (if decide (a1.A ≥ (a0.Classes.length : Int)) = true then (some ((⟨[], Gv.nil⟩ : Ac6), 72)) else (if decide (a1.B < 0) = true then (some ((⟨[], Gv.nil⟩ : Ac6), 72)) else (if decide (a1.B ≥ (x55.length : Int)) = true then (some ((⟨[], Gv.nil⟩ : Ac6), 72)) else ((idx x55 a1.B).bind fun x0 => if a2 = true then ((Atu a1.A).bind fun x1 => (Am5 x1).bind fun x2 => (Am5 x0.Akl).bind fun x3 => some ((⟨([x2, x3] : List BQ), (Gv.const ([] : List UInt8))⟩ : Ac6), 0)) else ((Atu a1.A).bind fun x4 => (Am5 x4).bind fun x5 => some ((⟨([x5] : List BQ), (Gv.const ([x0.Akl] : List UInt8))⟩ : Ac6), 0))))))
def Ak5 (t : Af0 BQ) (e : GG) (i : CO) : Option (Ac6 × Int) :=
 match t with
 | .fixed l x => Asb e i l x
 | .call => Axx e i
 | .ret x => Asd e i x
 | .classed l b => Anh e i b l
 | .field b => Ar6 e i b
 | .nil => none
def Aq5 (a0 : GG) (a1 : CO) : Option (Ac6 × Int) :=
 (Alw a1.Op).bind fun x91 => if (x91 == 0) = true then (some ((⟨[], Gv.nil⟩ : Ac6), 40)) else (step_table.bind fun x0 => (x0[a1.Op.toNat]?).bind fun t0 => (Ak5 t0 (⟨a0.Classes, a0.OS, a0.Fn⟩ : GG) (⟨a1.At, a1.Op, a1.A, a1.B⟩ : CO)).bind fun x1 => some ((⟨x1.1.takes, x1.1.gives⟩ : Ac6), x1.2))
def Ar0 (a0 : B0) (a1 : Int) : Option (UInt8 × Int) :=
 (Ak4 (⟨a0.Locals, a0.Height, a0.Slots⟩ : B0)).bind fun x68 => if (!x68) = true then (some ((0 : UInt8), 32)) else (if decide (a1 < 0) = true then (some ((0 : UInt8), 1)) else (if decide (a1 ≥ a0.Height) = true then (some ((0 : UInt8), 30)) else ((idx a0.Slots.toList (wr ((wr ((wr (a0.Locals + a0.Height)) - 1)) - a1))).bind fun x0 => some (x0, 0))))
def Ajz (a0 : UInt8) : Option Bool :=
 if ((a0.toNat : Int) == 3) = true then (some true) else (if ((a0.toNat : Int) == 4) = true then (some true) else (if ((a0.toNat : Int) == 5) = true then (some true) else (some (decide ((a0.toNat : Int) ≥ 16)))))
def Aqv (a0 : Int) (a1 : Int) (a2 : Bool) : Option (Bool × Bool) :=
 some ((!(a0 == a1)), (a0 == a1))
def Aft (a0 : List BV) (a1 : Int) (s0 : Bool × Int) : Option ((Bool × Int) ⊕ (Bool ⊕ Bool)) :=
 if decide (s0.2 ≥ 0) = true then (if decide (s0.2 < (a0.length : Int)) = true then ((Aqv s0.2 a1 s0.1).bind fun x0 => if x0.1 = true then ((idx a0 s0.2).bind fun x1 => if decide (x1.Ace ≥ s0.2) = true then (some (.inr (.inl x0.2))) else (some (.inl (x0.2, x1.Ace)))) else (some (.inr (.inr (x0.2))))) else (some (.inr (.inr (s0.1))))) else (some (.inr (.inr (s0.1))))
def Alo (a0 : List BV) (a1 : Int) (a2 : Int) (a3 : Bool) : Option Bool :=
 ((Aa4 (Aft a0 a2) (a3, a1) : Option (Bool ⊕ Bool))).bind fun o0 => (match o0 with | .inl p0 => (some p0) | .inr p1 => (some p1))
def Aqg (a0 : List BV) (a1 : Int) (a2 : Int) : Option Bool :=
 (Alo a0 a1 a2 false).bind fun x54 => some x54
def Aq9 (a0 : List BV) (a1 : UInt8) (a2 : UInt8) : Option Bool :=
 (Ai9 a0 a1).bind fun x34 => if (!x34) = true then (some false) else ((Ai9 a0 a2).bind fun x50 => if (!x50) = true then (some false) else (if ((a1.toNat : Int) == (a2.toNat : Int)) = true then (some true) else (if ((a2.toNat : Int) == 0) = true then (some true) else (if ((a1.toNat : Int) == 3) = true then ((Ajz a1).bind fun x0 => if x0 = true then ((Ajz a2).bind fun x1 => some x1) else (some false)) else (if ((a2.toNat : Int) == 5) = true then ((Ajz a1).bind fun x2 => if x2 = true then ((Ajz a2).bind fun x3 => some x3) else (some false)) else ((Akn a0 a1).bind fun x4 => (Akn a0 a2).bind fun x5 => if decide (x4 ≥ 0) = true then (if decide (x5 ≥ 0) = true then ((Aqg a0 x4 x5).bind fun x6 => some x6) else (some false)) else (some false)))))))
def Avf (a0 : List BV) (a1 : BQ) (a2 : UInt8) (a3 : UInt8) : Option Bool :=
 if (a1.kind == 1) = true then (some ((a2.toNat : Int) != 0)) else (if (a1.kind == 2) = true then ((Ajz a2).bind fun x0 => some x0) else (if (a1.kind == 3) = true then (if ((a2.toNat : Int) == (a3.toNat : Int)) = true then (if ((a2.toNat : Int) == 1) = true then (some true) else (some ((a2.toNat : Int) == 2))) else (some false)) else (if (a1.kind == 4) = true then ((Aq9 a0 a2 a1.t).bind fun x1 => some x1) else (some true))))
def Ami (a1 : B0) (a2 : List BQ) (s0 : (List UInt8) × Int) : Option (((List UInt8) × Int) ⊕ (((List UInt8)))) :=
 if decide (s0.2 < (a2.length : Int)) = true then ((Ar0 (⟨a1.Locals, a1.Height, a1.Slots⟩ : B0) (wr ((wr ((a2.length : Int) - 1)) - s0.2))).bind fun x0 => (app 140737488355328 s0.1 ([x0.1] : List UInt8)).bind fun x1 => some (.inl (x1, wr (s0.2 + 1)))) else (some (.inr s0.1))
def Amo (a0 : List BV) (a2 : List BQ) (o0 : ((List UInt8))) (s0 : Int) : Option (Int ⊕ (((List UInt8) × Int) ⊕ Unit)) :=
 if decide (s0 < (o0.length : Int)) = true then ((idx o0 s0).bind fun x0 => (idx a2 s0).bind fun x1 => (idx o0 0).bind fun x2 => (Avf a0 x1 x0 x2).bind fun x3 => if (!x3) = true then (some (.inr (.inl (([] : List UInt8), 70)))) else (some (.inl (wr (s0 + 1))))) else (some (.inr (.inr (()))))
def Ar1 (a0 : List BV) (a1 : B0) (a2 : List BQ) : Option ((List UInt8) × Int) :=
 if decide (a1.Height < (a2.length : Int)) = true then (some (([] : List UInt8), 30)) else ((Aa4 (Ami a1 a2) ([], 0)).bind fun o0 => (((Aa4 (Amo a0 a2 o0) 0 : Option (((List UInt8) × Int) ⊕ Unit))).bind fun o1 => (match o1 with | .inl p0 => (some p0) | .inr p1 => (some (o0, 0)))))
def A2j (a0 : List UInt8) : Option ((List UInt8)) :=
 (idx a0 0).bind fun x40 => (idx a0 0).bind fun x45 => some ([x40, x45] : List UInt8)
def A1j (a0 : List UInt8) : Option ((List UInt8)) :=
 (idx a0 1).bind fun x40 => (idx a0 0).bind fun x45 => some ([x40, x45] : List UInt8)
def Aoo (a0 : B0) (a1 : Int) : Option (UInt8 × Int) :=
 (Ak4 (⟨a0.Locals, a0.Height, a0.Slots⟩ : B0)).bind fun x66 => if (!x66) = true then (some ((0 : UInt8), 32)) else (if decide (a1 < 0) = true then (some ((0 : UInt8), 33)) else (if decide (a1 ≥ a0.Locals) = true then (some ((0 : UInt8), 33)) else ((idx a0.Slots.toList a1).bind fun x0 => some (x0, 0))))
def At6 (a0 : B0) : Option (B0 × UInt8 × Int) :=
 (Ar0 (⟨a0.Locals, a0.Height, a0.Slots⟩ : B0) 0).bind fun x38 => if (x38.2 != 0) = true then (some ((⟨0, 0, (Vector.replicate 24 (0 : UInt8))⟩ : B0), (0 : UInt8), x38.2)) else ((Am1 (⟨a0.Locals, wr (a0.Height - 1), a0.Slots⟩ : B0)).bind fun x0 => some ((⟨x0.Locals, x0.Height, x0.Slots⟩ : B0), x38.1, 0))
def Ara (a0 : B0) (a1 : Int) (a2 : UInt8) : Option (B0 × Int) :=
 (Aoo (⟨a0.Locals, a0.Height, a0.Slots⟩ : B0) a1).bind fun x39 => if (x39.2 != 0) = true then (some ((⟨0, 0, (Vector.replicate 24 (0 : UInt8))⟩ : B0), x39.2)) else ((Am1 (⟨a0.Locals, a0.Height, a0.Slots⟩ : B0)).bind fun x0 => (idx x0.Slots.toList a1).bind fun x1 => some ((⟨x0.Locals, x0.Height, (Amj x0.Slots a1 a2)⟩ : B0), 0))
def Asu (a0 : B0) (a1 : UInt8) : Option (B0 × Int) :=
 (Ak4 (⟨a0.Locals, a0.Height, a0.Slots⟩ : B0)).bind fun x0 => if (!x0) = true then (some ((⟨0, 0, (Vector.replicate 24 (0 : UInt8))⟩ : B0), 32)) else (if ((wr (a0.Locals + a0.Height)) == 24) = true then (some ((⟨0, 0, (Vector.replicate 24 (0 : UInt8))⟩ : B0), 31)) else ((Am1 (⟨a0.Locals, a0.Height, a0.Slots⟩ : B0)).bind fun x1 => (idx x1.Slots.toList (wr (x1.Locals + x1.Height))).bind fun x2 => some ((⟨x1.Locals, wr (x1.Height + 1), (Amj x1.Slots (wr (x1.Locals + x1.Height)) a1)⟩ : B0), 0)))
def Ana (a2 : List UInt8) (s0 : Int × Int × (Vector UInt8 24) × Int) : Option ((Int × Int × (Vector UInt8 24) × Int) ⊕ ((Int × Int × (Vector UInt8 24)))) :=
 if decide (s0.2.2.2 < (a2.length : Int)) = true then ((At6 (⟨s0.1, s0.2.1, s0.2.2.1⟩ : B0)).bind fun x0 => some (.inl (x0.1.Locals, x0.1.Height, x0.1.Slots, wr (s0.2.2.2 + 1)))) else (some (.inr (s0.1, s0.2.1, s0.2.2.1)))
def Akb (a3 : List UInt8) (s0 : Int × Int × (Vector UInt8 24) × Int) : Option ((Int × Int × (Vector UInt8 24) × Int) ⊕ ((B0 × Int) ⊕ (Int × Int × (Vector UInt8 24)))) :=
 if decide (s0.2.2.2 < (a3.length : Int)) = true then ((idx a3 s0.2.2.2).bind fun x0 => (Asu (⟨s0.1, s0.2.1, s0.2.2.1⟩ : B0) x0).bind fun x1 => if (x1.2 != 0) = true then (some (.inr (.inl ((⟨0, 0, (Vector.replicate 24 (0 : UInt8))⟩ : B0), x1.2)))) else (some (.inl (x1.1.Locals, x1.1.Height, x1.1.Slots, wr (s0.2.2.2 + 1))))) else (some (.inr (.inr ((s0.1, s0.2.1, s0.2.2.1)))))
def Am2 (a0 : B0) (a1 : CO) (a2 : List UInt8) (a3 : List UInt8) : Option (B0 × Int) :=
 (Aa4 (Ana a2) (a0.Locals, a0.Height, a0.Slots, 0)).bind fun o0 => (((if ((a1.Op.toNat : Int) == 22) = true then (if decide (o0.2.1 > 0) = true then (some (.inl ((⟨0, 0, (Vector.replicate 24 (0 : UInt8))⟩ : B0), 73))) else (some (.inr (())))) else (some (.inr (()))) : Option ((B0 × Int) ⊕ Unit))).bind fun o1 => (match o1 with | .inl p0 => (some p0) | .inr p1 => ((if ((a1.Op.toNat : Int) == 5) = true then ((idx a2 0).bind fun x0 => (Ara (⟨o0.1, o0.2.1, o0.2.2⟩ : B0) a1.A x0).bind fun x1 => some (x1.1.Locals, x1.1.Height, x1.1.Slots)) else (some (o0.1, o0.2.1, o0.2.2))).bind fun o2 => (((Aa4 (Akb a3) (o2.1, o2.2.1, o2.2.2, 0) : Option ((B0 × Int) ⊕ (Int × Int × (Vector UInt8 24))))).bind fun o3 => (match o3 with | .inl p2 => (some p2) | .inr p3 => (some ((⟨p3.1, p3.2.1, p3.2.2⟩ : B0), 0)))))))
def Aug (a0 : GG) (a1 : B0) (a2 : CO) : Option (B0 × Int) :=
 (Ang (⟨a0.Classes, a0.OS, a0.Fn⟩ : GG)).bind fun x0 => if (!x0) = true then (some ((⟨0, 0, (Vector.replicate 24 (0 : UInt8))⟩ : B0), 1)) else ((Alv a0.Classes (⟨a1.Locals, a1.Height, a1.Slots⟩ : B0)).bind fun x1 => if (x1 != 0) = true then (some ((⟨0, 0, (Vector.replicate 24 (0 : UInt8))⟩ : B0), x1)) else ((Aq5 (⟨a0.Classes, a0.OS, a0.Fn⟩ : GG) (⟨a2.At, a2.Op, a2.A, a2.B⟩ : CO)).bind fun x2 => (if ((a2.Op.toNat : Int) == 4) = true then (some true) else (some ((a2.Op.toNat : Int) == 5))).bind fun o0 => ((if (x2.2 == 0) = true then (if o0 = true then (if decide (a2.A < 0) = true then (some 33) else (if decide (a2.A ≥ a1.Locals) = true then (some 33) else (some x2.2))) else (some x2.2)) else (some x2.2)).bind fun o1 => (if (o1 != 0) = true then (some ((⟨0, 0, (Vector.replicate 24 (0 : UInt8))⟩ : B0), o1)) else ((Ar1 a0.Classes (⟨a1.Locals, a1.Height, a1.Slots⟩ : B0) x2.1.takes).bind fun x3 => if (x3.2 != 0) = true then (some ((⟨0, 0, (Vector.replicate 24 (0 : UInt8))⟩ : B0), x3.2)) else ((Gv.run x2.1.gives x3.1).bind fun x4 => if ((a2.Op.toNat : Int) == 4) = true then ((Aoo (⟨a1.Locals, a1.Height, a1.Slots⟩ : B0) a2.A).bind fun x5 => if ((x5.1.toNat : Int) == 0) = true then (some ((⟨0, 0, (Vector.replicate 24 (0 : UInt8))⟩ : B0), 70)) else ((Am2 (⟨a1.Locals, a1.Height, a1.Slots⟩ : B0) (⟨a2.At, a2.Op, a2.A, a2.B⟩ : CO) x3.1 ([x5.1] : List UInt8)).bind fun x6 => some ((⟨x6.1.Locals, x6.1.Height, x6.1.Slots⟩ : B0), x6.2))) else ((Am2 (⟨a1.Locals, a1.Height, a1.Slots⟩ : B0) (⟨a2.At, a2.Op, a2.A, a2.B⟩ : CO) x3.1 x4).bind fun x7 => some ((⟨x7.1.Locals, x7.1.Height, x7.1.Slots⟩ : B0), x7.2))))))))
def Aqc (a0 : UInt8) : Option Bool :=
 if ((a0.toNat : Int) == 19) = true then (some true) else (some ((a0.toNat : Int) == 20))
def Atq (a0 : UInt8) : Option Bool :=
 if ((a0.toNat : Int) == 19) = true then (some true) else (if ((a0.toNat : Int) == 22) = true then (some true) else (some ((a0.toNat : Int) == 32)))
def Att (a0 : List BV) (a1 : B0) (a2 : B0) : Option Int :=
 (Alv a0 (⟨a1.Locals, a1.Height, a1.Slots⟩ : B0)).bind fun x39 => if (x39 == 0) = true then ((Alv a0 (⟨a2.Locals, a2.Height, a2.Slots⟩ : B0)).bind fun x71 => if (x71 == 0) = true then (if (a1.Locals != a2.Locals) = true then (some 32) else (if (a1.Height != a2.Height) = true then (some 32) else (some x71))) else (some x71)) else (some x39)
def Aqr (a0 : Int) (a1 : List BV) (a2 : Int) (a3 : UInt8) : Option (Bool × UInt8) :=
 (Aqg a1 a2 a0).bind fun x59 => if x59 = true then (some (false, Aiq (16 + ((Aiq a0).toNat : Int)))) else (some (true, a3))
def Afv (a0 : List BV) (a1 : List BV) (a2 : Int) (s0 : UInt8 × Int) : Option ((UInt8 × Int) ⊕ (UInt8 ⊕ UInt8)) :=
 if decide (s0.2 ≥ 0) = true then (if decide (s0.2 < (a0.length : Int)) = true then ((Aqr s0.2 a1 a2 s0.1).bind fun x0 => if x0.1 = true then ((idx a0 s0.2).bind fun x1 => if decide (x1.Ace ≥ s0.2) = true then (some (.inr (.inl x0.2))) else (some (.inl (x0.2, x1.Ace)))) else (some (.inr (.inr (x0.2))))) else (some (.inr (.inr (s0.1))))) else (some (.inr (.inr (s0.1))))
def Ajy (a0 : List BV) (a1 : Int) (a2 : List BV) (a3 : Int) (a4 : UInt8) : Option UInt8 :=
 ((Aa4 (Afv a0 a2 a3) (a4, a1) : Option (UInt8 ⊕ UInt8))).bind fun o0 => (match o0 with | .inl p0 => (some p0) | .inr p1 => (some p1))
def Ast (a0 : List BV) (a1 : UInt8) (a2 : UInt8) : Option UInt8 :=
 (Ai9 a0 a1).bind fun x0 => if (!x0) = true then (some (0 : UInt8)) else ((Ai9 a0 a2).bind fun x1 => if (!x1) = true then (some (0 : UInt8)) else ((Aq9 a0 a1 a2).bind fun x2 => if x2 = true then (some a2) else ((Aq9 a0 a2 a1).bind fun x3 => if x3 = true then (some a1) else ((Ajz a1).bind fun x4 => if (!x4) = true then (some (0 : UInt8)) else ((Ajz a2).bind fun x5 => if (!x5) = true then (some (0 : UInt8)) else ((Akn a0 a1).bind fun x6 => (Akn a0 a2).bind fun x7 => if decide (x6 ≥ 0) = true then (if decide (x7 ≥ 0) = true then ((Ajy a0 x6 a0 x7 5).bind fun x8 => some x8) else (some (5 : UInt8))) else (some (5 : UInt8))))))))
def Al9 (a0 : List BV) (a1 : B0) (a2 : B0) (s0 : (Vector UInt8 24) × Int) : Option (((Vector UInt8 24) × Int) ⊕ (((Vector UInt8 24)))) :=
 if decide (s0.2 < (wr (a1.Locals + a1.Height))) = true then ((idx s0.1.toList s0.2).bind fun x0 => (idx a2.Slots.toList s0.2).bind fun x1 => (Ast a0 x0 x1).bind fun x2 => (idx s0.1.toList s0.2).bind fun x3 => some (.inl ((Amj s0.1 s0.2 x2), wr (s0.2 + 1)))) else (some (.inr s0.1))
def Arp (a0 : List BV) (a1 : B0) (a2 : B0) : Option (B0 × Int) :=
 (Att a0 (⟨a1.Locals, a1.Height, a1.Slots⟩ : B0) (⟨a2.Locals, a2.Height, a2.Slots⟩ : B0)).bind fun x52 => if (x52 != 0) = true then (some ((⟨0, 0, (Vector.replicate 24 (0 : UInt8))⟩ : B0), x52)) else ((Aa4 (Al9 a0 a1 a2) (a1.Slots, 0)).bind fun o0 => (some ((⟨a1.Locals, a1.Height, o0⟩ : B0), 0)))
def Akz (a0 : Aae) (a1 : Int) (a2 : B0) : Option (Int × Aae) :=
 ((if (Adq a0.frames a1).isSome = true then ((Arp a0.e.Classes (⟨((Adq a0.frames a1).getD (⟨(0 : Int), (0 : Int), (Vector.replicate 24 (0 : UInt8))⟩ : B0)).Locals, ((Adq a0.frames a1).getD (⟨(0 : Int), (0 : Int), (Vector.replicate 24 (0 : UInt8))⟩ : B0)).Height, ((Adq a0.frames a1).getD (⟨(0 : Int), (0 : Int), (Vector.replicate 24 (0 : UInt8))⟩ : B0)).Slots⟩ : B0) (⟨a2.Locals, a2.Height, a2.Slots⟩ : B0)).bind fun x0 => if (x0.2 != 0) = true then (some (.inl (x0.2, (⟨(⟨a0.e.Classes, a0.e.OS, a0.e.Fn⟩ : GG), a0.code, a0.frames, a0.fresh, a0.taken, a1⟩ : Aae)))) else (some (.inr ((x0.1.Locals, x0.1.Height, x0.1.Slots))))) else (some (.inr ((a2.Locals, a2.Height, a2.Slots)))) : Option ((Int × Aae) ⊕ (Int × Int × (Vector UInt8 24))))).bind fun o0 => (match o0 with | .inl p0 => (some p0) | .inr p1 => (if (!((Adq a0.frames a1).isSome)) = true then (some (0, (⟨(⟨a0.e.Classes, a0.e.OS, a0.e.Fn⟩ : GG), a0.code, (Ae7 a0.frames a1 (⟨p1.1, p1.2.1, p1.2.2⟩ : B0)), (Ae7 a0.fresh a1 ()), a0.taken, a0.Ade⟩ : Aae))) else (if (!((p1.1 == (((Adq a0.frames a1).getD (⟨(0 : Int), (0 : Int), (Vector.replicate 24 (0 : UInt8))⟩ : B0)).Locals)) && ((p1.2.1 == (((Adq a0.frames a1).getD (⟨(0 : Int), (0 : Int), (Vector.replicate 24 (0 : UInt8))⟩ : B0)).Height)) && ((p1.2.2 == (((Adq a0.frames a1).getD (⟨(0 : Int), (0 : Int), (Vector.replicate 24 (0 : UInt8))⟩ : B0)).Slots)) && true)))) = true then (some (0, (⟨(⟨a0.e.Classes, a0.e.OS, a0.e.Fn⟩ : GG), a0.code, (Ae7 a0.frames a1 (⟨p1.1, p1.2.1, p1.2.2⟩ : B0)), (Ae7 a0.fresh a1 ()), a0.taken, a0.Ade⟩ : Aae))) else (some (0, (⟨(⟨a0.e.Classes, a0.e.OS, a0.e.Fn⟩ : GG), a0.code, a0.frames, a0.fresh, a0.taken, a0.Ade⟩ : Aae))))))
def Afs (x0 : B0 × Int) (x1 : List Int) (s0 : (List BV) × (List Aa6) × Int × (List UInt8) × Int × (List (Int × B0)) × (List (Int × Unit)) × (List (Int × Int)) × Int) : Option (((List BV) × (List Aa6) × Int × (List UInt8) × Int × (List (Int × B0)) × (List (Int × Unit)) × (List (Int × Int)) × Int) ⊕ ((Int × Aae) ⊕ ((List BV) × (List Aa6) × Int × (List UInt8) × Int × (List (Int × B0)) × (List (Int × Unit)) × (List (Int × Int))))) :=
 if decide (s0.2.2.2.2.2.2.2.2 < (x1.length : Int)) = true then ((idx x1 s0.2.2.2.2.2.2.2.2).bind fun x2 => (Akz (⟨(⟨s0.1, s0.2.1, s0.2.2.1⟩ : GG), s0.2.2.2.1, s0.2.2.2.2.2.1, s0.2.2.2.2.2.2.1, s0.2.2.2.2.2.2.2.1, s0.2.2.2.2.1⟩ : Aae) x2 (⟨x0.1.Locals, x0.1.Height, x0.1.Slots⟩ : B0)).bind fun x3 => if (x3.1 != 0) = true then (some (.inr (.inl (x3.1, (⟨(⟨x3.2.e.Classes, x3.2.e.OS, x3.2.e.Fn⟩ : GG), x3.2.code, x3.2.frames, x3.2.fresh, x3.2.taken, x3.2.Ade⟩ : Aae))))) else (some (.inl (x3.2.e.Classes, x3.2.e.OS, x3.2.e.Fn, x3.2.code, x3.2.Ade, x3.2.frames, x3.2.fresh, x3.2.taken, wr (s0.2.2.2.2.2.2.2.2 + 1))))) else (some (.inr (.inr ((s0.1, s0.2.1, s0.2.2.1, s0.2.2.2.1, s0.2.2.2.2.1, s0.2.2.2.2.2.1, s0.2.2.2.2.2.2.1, s0.2.2.2.2.2.2.2.1)))))
def Akp (a0 : Aae) (a1 : Int) : Option (Int × Aae) :=
 if (a1 == (a0.code.length : Int)) = true then (some (51, (⟨(⟨a0.e.Classes, a0.e.OS, a0.e.Fn⟩ : GG), a0.code, a0.frames, a0.fresh, a0.taken, a1⟩ : Aae))) else ((Am4 a0.code a1).bind fun x64 => if (x64.2 != 0) = true then (some (x64.2, (⟨(⟨a0.e.Classes, a0.e.OS, a0.e.Fn⟩ : GG), a0.code, a0.frames, a0.fresh, a0.taken, a1⟩ : Aae))) else ((Ald (⟨(⟨a0.e.Classes, a0.e.OS, a0.e.Fn⟩ : GG), a0.code, a0.frames, a0.fresh, a0.taken, a1⟩ : Aae) (⟨x64.1.At, x64.1.Op, x64.1.A, x64.1.B⟩ : CO)).bind fun x0 => if (!x0.1) = true then (some (80, (⟨(⟨x0.2.e.Classes, x0.2.e.OS, x0.2.e.Fn⟩ : GG), x0.2.code, x0.2.frames, x0.2.fresh, x0.2.taken, x0.2.Ade⟩ : Aae))) else ((Aug (⟨x0.2.e.Classes, x0.2.e.OS, x0.2.e.Fn⟩ : GG) ((Adq x0.2.frames a1).getD (⟨(0 : Int), (0 : Int), (Vector.replicate 24 (0 : UInt8))⟩ : B0)) (⟨x64.1.At, x64.1.Op, x64.1.A, x64.1.B⟩ : CO)).bind fun x1 => if (x1.2 != 0) = true then (some (x1.2, (⟨(⟨x0.2.e.Classes, x0.2.e.OS, x0.2.e.Fn⟩ : GG), x0.2.code, x0.2.frames, x0.2.fresh, x0.2.taken, x0.2.Ade⟩ : Aae))) else ((Alw x64.1.Op).bind fun x2 => (((Aqc x64.1.Op).bind fun x3 => if x3 = true then (if decide (x64.1.A ≥ (x0.2.code.length : Int)) = true then (some (.inl (50, (⟨(⟨x0.2.e.Classes, x0.2.e.OS, x0.2.e.Fn⟩ : GG), x0.2.code, x0.2.frames, x0.2.fresh, x0.2.taken, x0.2.Ade⟩ : Aae)))) else ((app 17592186044416 ([] : List Int) ([x64.1.A] : List Int)).bind fun x4 => some (.inr (x4)))) else (some (.inr ([]))) : Option ((Int × Aae) ⊕ ((List Int))))).bind fun o0 => (match o0 with | .inl p0 => (some p0) | .inr p1 => ((((Atq x64.1.Op).bind fun x5 => if (!x5) = true then (if ((wr (a1 + x2)) == (x0.2.code.length : Int)) = true then (some (.inl (51, (⟨(⟨x0.2.e.Classes, x0.2.e.OS, x0.2.e.Fn⟩ : GG), x0.2.code, x0.2.frames, x0.2.fresh, x0.2.taken, x0.2.Ade⟩ : Aae)))) else ((app 17592186044416 p1 ([wr (a1 + x2)] : List Int)).bind fun x6 => some (.inr (x6)))) else (some (.inr (p1))) : Option ((Int × Aae) ⊕ ((List Int))))).bind fun o1 => (match o1 with | .inl p2 => (some p2) | .inr p3 => ((Awg p3).bind fun x7 => (As5 x7).bind fun x8 => ((Aa4 (Afs x1 x8) (x0.2.e.Classes, x0.2.e.OS, x0.2.e.Fn, x0.2.code, x0.2.Ade, x0.2.frames, x0.2.fresh, x0.2.taken, 0) : Option ((Int × Aae) ⊕ ((List BV) × (List Aa6) × Int × (List UInt8) × Int × (List (Int × B0)) × (List (Int × Unit)) × (List (Int × Int)))))).bind fun o2 => (match o2 with | .inl p4 => (some p4) | .inr p5 => (some (0, (⟨(⟨p5.1, p5.2.1, p5.2.2.1⟩ : GG), p5.2.2.2.1, p5.2.2.2.2.2.1, p5.2.2.2.2.2.2.1, p5.2.2.2.2.2.2.2, p5.2.2.2.2.1⟩ : Aae))))))))))))
def Aji (p0 : Int × Unit) (s0 : Int) : Option (Int ⊕ Int) :=
 some (.inl (if p0.1 < s0 then p0.1 else s0))
def Ajl (a2 : List UInt8) (s0 : (List BV) × (List Aa6) × Int × (List UInt8) × Int × (List (Int × Int)) × (List (Int × Unit)) × (List (Int × B0)) × Int) : Option (((List BV) × (List Aa6) × Int × (List UInt8) × Int × (List (Int × Int)) × (List (Int × Unit)) × (List (Int × B0)) × Int) ⊕ (((List BV) × (List Aa6) × Int × (List UInt8) × Int × (List (Int × B0)) × (List (Int × Unit)) × (List (Int × Int)) × Int))) :=
 if decide ((s0.2.2.2.2.2.2.1.length : Int) > 0) = true then (((Avl (Aji) s0.2.2.2.2.2.2.1 (a2.length : Int)).bind (AD9 fun s1 => (some s1))).bind fun o0 => ((Akp (⟨(⟨s0.1, s0.2.1, s0.2.2.1⟩ : GG), s0.2.2.2.1, s0.2.2.2.2.2.2.2.1, (Amz s0.2.2.2.2.2.2.1 o0), s0.2.2.2.2.2.1, s0.2.2.2.2.1⟩ : Aae) o0).bind fun x0 => if (x0.1 != 0) = true then (some (.inr (x0.2.e.Classes, x0.2.e.OS, x0.2.e.Fn, x0.2.code, x0.2.Ade, x0.2.frames, x0.2.fresh, x0.2.taken, x0.1))) else (some (.inl (x0.2.e.Classes, x0.2.e.OS, x0.2.e.Fn, x0.2.code, x0.2.Ade, x0.2.taken, x0.2.fresh, x0.2.frames, x0.1))))) else (some (.inr (s0.1, s0.2.1, s0.2.2.1, s0.2.2.2.1, s0.2.2.2.2.1, s0.2.2.2.2.2.2.2.1, s0.2.2.2.2.2.2.1, s0.2.2.2.2.2.1, s0.2.2.2.2.2.2.2.2)))
def At4 (a0 : GG) (a1 : Int) (a2 : List UInt8) : Option ((Option Aae) × Int × Int) :=
 (Ato (⟨a0.Classes, a0.OS, a0.Fn⟩ : GG) a1).bind fun x57 => if (x57 != 0) = true then (some ((none : Option Aae), 0, x57)) else (if decide ((a2.length : Int) > 4096) = true then (some ((none : Option Aae), 0, 4)) else ((idx a0.OS a0.Fn).bind fun x0 => (Apb a0.Classes x0.Abs a1).bind fun x1 => (Aa4 (Ajl a2) (a0.Classes, a0.OS, a0.Fn, a2, 0, ([] : List (Int × Int)), (Ae7 ([] : List (Int × Unit)) 0 ()), (Ae7 ([] : List (Int × B0)) 0 (⟨x1.1.Locals, x1.1.Height, x1.1.Slots⟩ : B0)), 0)).bind fun o0 => (if (o0.2.2.2.2.2.2.2.2 != 0) = true then (some ((none : Option Aae), o0.2.2.2.2.1, o0.2.2.2.2.2.2.2.2)) else (some (some (⟨(⟨o0.1, o0.2.1, o0.2.2.1⟩ : GG), o0.2.2.2.1, o0.2.2.2.2.2.1, o0.2.2.2.2.2.2.1, o0.2.2.2.2.2.2.2.1, o0.2.2.2.2.1⟩ : Aae), 0, 0)))))
def Akj (x0 : Aae) (x1 : List Int) (s0 : (List Ac9) × Int) : Option (((List Ac9) × Int) ⊕ (((List Ac9)))) :=
 if decide (s0.2 < (x1.length : Int)) = true then ((idx x1 s0.2).bind fun x2 => (app 2513169434916 s0.1 ([(⟨x2, false, (⟨((Adq x0.frames x2).getD (⟨(0 : Int), (0 : Int), (Vector.replicate 24 (0 : UInt8))⟩ : B0)).Locals, ((Adq x0.frames x2).getD (⟨(0 : Int), (0 : Int), (Vector.replicate 24 (0 : UInt8))⟩ : B0)).Height, ((Adq x0.frames x2).getD (⟨(0 : Int), (0 : Int), (Vector.replicate 24 (0 : UInt8))⟩ : B0)).Slots⟩ : B0)⟩ : Ac9)] : List Ac9)).bind fun x3 => some (.inl (x3, wr (s0.2 + 1)))) else (some (.inr s0.1))
def Asr (a0 : GG) (a1 : Int) (a2 : List UInt8) : Option ((List Ac9) × Int × Int) :=
 (At4 (⟨a0.Classes, a0.OS, a0.Fn⟩ : GG) a1 a2).bind fun x29 => if (x29.2.2 != 0) = true then (some (([] : List Ac9), x29.2.1, x29.2.2)) else ((x29.1).bind fun x0 => ((A54 x0.frames).bind fun x1 => (Aa4 (Akj x0 x1) ([], 0)).bind fun o0 => (some (o0, 0, 0))))
def Aml (x0 : Adh) (x1 : (List Ac9) × Int × Int) (s0 : (List CO) × Int × Int) : Option (((List CO) × Int × Int) ⊕ (((List CO) × Int))) :=
 if decide (s0.2.2 < (x1.1.length : Int)) = true then ((idx x1.1 s0.2.2).bind fun x2 => (Am4 x0.Code x2.At).bind fun x3 => (app 4398046511104 s0.1 ([(⟨x3.1.At, x3.1.Op, x3.1.A, x3.1.B⟩ : CO)] : List CO)).bind fun x4 => some (.inl (x4, (if s0.2.1 < x2.Frame.Height then x2.Frame.Height else s0.2.1), wr (s0.2.2 + 1)))) else (some (.inr (s0.1, s0.2.1)))
def Ap9 (a0 : LK) (a1 : Int) : Option ((Option Ads) × Int × Int) :=
 (Avi (⟨a0.Name, a0.Classes, a0.Funcs, a0.Adm⟩ : LK) a1).bind fun x43 => if (!x43.2) = true then (some ((none : Option Ads), 0, 1)) else ((idx a0.Funcs a1).bind fun x0 => (Asr (⟨x43.1.Classes, x43.1.OS, x43.1.Fn⟩ : GG) x0.Locals x0.Code).bind fun x1 => if (x1.2.2 != 0) = true then (some ((none : Option Ads), x1.2.1, x1.2.2)) else ((Aa4 (Aml x0 x1) ([], 0, 0)).bind fun o0 => (some (some (⟨o0.1, o0.2⟩ : Ads), 0, 0))))
def Aim (a0 : Ads) (s0 : (List Int) × Int) : Option (((List Int) × Int) ⊕ (((List Int)))) :=
 if decide (s0.2 < (a0.l.length : Int)) = true then ((idx a0.l s0.2).bind fun x0 => if ((x0.Op.toNat : Int) == 21) = true then ((app 17592186044416 s0.1 ([x0.A] : List Int)).bind fun x1 => some (.inl (x1, wr (s0.2 + 1)))) else (some (.inl (s0.1, wr (s0.2 + 1))))) else (some (.inr s0.1))
def Anl (a0 : Ads) : Option ((List Int)) :=
 (Aa4 (Aim a0) ([], 0)).bind fun o0 => ((Awg o0).bind fun x0 => (As5 x0).bind fun x1 => some x1)
def Ajs (a0 : LK) (s0 : (List Aa6) × Int) : Option (((List Aa6) × Int) ⊕ (((List Aa6)))) :=
 if decide (s0.2 < (a0.Funcs.length : Int)) = true then ((idx a0.Funcs s0.2).bind fun x0 => (app 4398046511104 s0.1 ([(⟨x0.Sig.Abs, x0.Sig.Result⟩ : Aa6)] : List Aa6)).bind fun x1 => some (.inl (x1, wr (s0.2 + 1)))) else (some (.inr s0.1))
def Anq (a0 : LK) (a1 : Int) : Option (GG × Bool) :=
 if decide (a1 < 0) = true then (some ((⟨[], [], 0⟩ : GG), false)) else (if decide (a1 ≥ (a0.Funcs.length : Int)) = true then (some ((⟨[], [], 0⟩ : GG), false)) else ((Aa4 (Ajs a0) ([], 0)).bind fun o0 => (some ((⟨a0.Classes, o0, a1⟩ : GG), true))))
def Aib (a0 : List UInt8) (s0 : Int) : Option (Int ⊕ (Bool ⊕ Unit)) :=
 if decide (s0 < (a0.length : Int)) = true then ((idx a0 s0).bind fun x0 => (if decide ((x0.toNat : Int) ≥ 97) = true then (if decide ((x0.toNat : Int) ≤ 122) = true then (some true) else (if decide ((x0.toNat : Int) ≥ 65) = true then (some (decide ((x0.toNat : Int) ≤ 90))) else (some false))) else (if decide ((x0.toNat : Int) ≥ 65) = true then (some (decide ((x0.toNat : Int) ≤ 90))) else (some false))).bind fun o0 => (if (!o0) = true then (if (s0 == 0) = true then (some (.inr (.inl false))) else (if ((x0.toNat : Int) != 95) = true then (if decide ((x0.toNat : Int) < 48) = true then (some (.inr (.inl false))) else (if decide ((x0.toNat : Int) > 57) = true then (some (.inr (.inl false))) else (some (.inl (wr (s0 + 1)))))) else (some (.inl (wr (s0 + 1)))))) else (some (.inl (wr (s0 + 1)))))) else (some (.inr (.inr (()))))
def Ajr (a0 : List UInt8) : Option Bool :=
 if decide ((a0.length : Int) < 1) = true then (some false) else (if decide ((a0.length : Int) > 24) = true then (some false) else (((Aa4 (Aib a0) 0 : Option (Bool ⊕ Unit))).bind fun o0 => (match o0 with | .inl p0 => (some p0) | .inr p1 => (some true))))
def Aoy (a0 : UInt8) : Option ((List UInt8)) :=
 if ((a0.toNat : Int) == 0) = true then (some [116, 111, 112]) else (if ((a0.toNat : Int) == 1) = true then (some [105, 110, 116]) else (if ((a0.toNat : Int) == 2) = true then (some [98, 111, 111, 108]) else (if ((a0.toNat : Int) == 3) = true then (some [110, 117, 108, 108]) else (if ((a0.toNat : Int) == 4) = true then (some [105, 110, 116, 115]) else (if ((a0.toNat : Int) == 5) = true then (some [97, 110, 121]) else (some []))))))
def Afy (a0 : List UInt8) (s0 : UInt8) : Option (UInt8 ⊕ (Bool ⊕ Unit)) :=
 if decide ((s0.toNat : Int) ≤ 5) = true then ((Aoy s0).bind fun x0 => if (x0 == a0) = true then (some (.inr (.inl true))) else (some (.inl (Aiq ((s0.toNat : Int) + 1))))) else (some (.inr (.inr (()))))
def Alh (a0 : List UInt8) : Option Bool :=
 ((Aa4 (Afy a0) 0 : Option (Bool ⊕ Unit))).bind fun o0 => (match o0 with | .inl p0 => (some p0) | .inr p1 => (some false))
def Agq (a0 : List BV) (s0 : Int × (List Int)) : Option ((Int × (List Int)) ⊕ (((List Int)))) :=
 if decide (s0.1 ≥ 0) = true then (if decide (s0.1 < (a0.length : Int)) = true then (if decide ((s0.2.length : Int) ≤ (a0.length : Int)) = true then ((app 17592186044416 s0.2 ([s0.1] : List Int)).bind fun x0 => (idx a0 s0.1).bind fun x1 => some (.inl (x1.Ace, x0))) else (some (.inr s0.2))) else (some (.inr s0.2))) else (some (.inr s0.2))
def Ak3 (a0 : List BV) (a1 : Int) : Option ((List Int)) :=
 (Aa4 (Agq a0) (a1, [])).bind fun o0 => (some o0)
def Aj1 (a0 : List BV) (x16 : (List Int)) (s0 : (List Acg) × Int) : Option (((List Acg) × Int) ⊕ (((List Acg)))) :=
 if decide (s0.2 ≥ 0) = true then ((idx x16 s0.2).bind fun x0 => (idx a0 x0).bind fun x1 => (app 5864062014805 s0.1 x1.Fields).bind fun x2 => some (.inl (x2, wr (s0.2 - 1)))) else (some (.inr s0.1))
def Afq (a0 : List BV) (a1 : Int) : Option ((List Acg)) :=
 (Ak3 a0 a1).bind fun x16 => (Aa4 (Aj1 a0 x16) ([], wr ((x16.length : Int) - 1))).bind fun o0 => (some o0)
def Ain (a0 : List Acg) (a1 : List UInt8) (s0 : Int) : Option (Int ⊕ (Bool ⊕ Unit)) :=
 if decide (s0 < (a0.length : Int)) = true then ((idx a0 s0).bind fun x0 => if (x0.Name == a1) = true then (some (.inr (.inl true))) else (some (.inl (wr (s0 + 1))))) else (some (.inr (.inr (()))))
def Ans (a0 : List Acg) (a1 : List UInt8) : Option Bool :=
 ((Aa4 (Ain a0 a1) 0 : Option (Bool ⊕ Unit))).bind fun o0 => (match o0 with | .inl p0 => (some p0) | .inr p1 => (some false))
def Aff (a0 : List BV) (a1 : UInt8) : Option Bool :=
 if decide ((a1.toNat : Int) ≤ 5) = true then (some true) else (if decide ((a1.toNat : Int) ≥ 16) = true then (some (decide (((Aiq ((a1.toNat : Int) - 16)).toNat : Int) < (a0.length : Int)))) else (some false))
def Aig (a0 : List BV) (a1 : UInt8) : Option Bool :=
 (Aff a0 a1).bind fun x22 => if x22 = true then (if ((a1.toNat : Int) != 0) = true then (some ((a1.toNat : Int) != 3)) else (some false)) else (some false)
def Ahc (a0 : List BV) (a1 : Int) (x28 : BV) (s0 : Int) : Option (Int ⊕ (Int ⊕ Unit)) :=
 if decide (s0 < a1) = true then ((idx a0 s0).bind fun x0 => if (x0.Name == x28.Name) = true then (some (.inr (.inl 20))) else (some (.inl (wr (s0 + 1))))) else (some (.inr (.inr (()))))
def Aga (a0 : List BV) (x28 : BV) (x0 : (List Acg)) (s0 : Int) : Option (Int ⊕ (Int ⊕ Unit)) :=
 if decide (s0 < (x28.Fields.length : Int)) = true then ((idx x28.Fields s0).bind fun x1 => (Ajr x1.Name).bind fun x2 => if (!x2) = true then (some (.inr (.inl 6))) else ((Ans x0 x1.Name).bind fun x3 => if x3 = true then (some (.inr (.inl 20))) else ((Aok x28.Fields 0 s0).bind fun x4 => (Ans x4 x1.Name).bind fun x5 => if x5 = true then (some (.inr (.inl 20))) else ((Aig a0 x1.Akl).bind fun x6 => if (!x6) = true then (some (.inr (.inl 22))) else (some (.inl (wr (s0 + 1)))))))) else (some (.inr (.inr (()))))
def Alx (a0 : List BV) (a1 : Int) : Option Int :=
 (idx a0 a1).bind fun x28 => if decide (a1 ≥ 32) = true then (some 4) else ((Ajr x28.Name).bind fun x99 => if (!x99) = true then (some 6) else ((Alh x28.Name).bind fun x0 => if x0 = true then (some 6) else (((Aa4 (Ahc a0 a1 x28) 0 : Option (Int ⊕ Unit))).bind fun o0 => (match o0 with | .inl p0 => (some p0) | .inr p1 => (if decide (x28.Ace < (-1)) = true then (some 21) else (if decide (x28.Ace ≥ a1) = true then (some 21) else ((Afq a0 x28.Ace).bind fun x1 => ((Aa4 (Aga a0 x28 x1) 0 : Option (Int ⊕ Unit))).bind fun o1 => (match o1 with | .inl p2 => (some p2) | .inr p3 => (if decide ((x28.Fields.length : Int) > (wr (32 - (x1.length : Int)))) = true then (some 4) else (some 0))))))))))
def Ag9 (a0 : List BV) (s0 : Int) : Option (Int ⊕ ((Int × Int) ⊕ Unit)) :=
 if decide (s0 < (a0.length : Int)) = true then ((Alx a0 s0).bind fun x0 => if (x0 != 0) = true then (some (.inr (.inl (s0, x0)))) else (some (.inl (wr (s0 + 1))))) else (some (.inr (.inr (()))))
def Ake (a0 : List BV) : Option (Int × Int) :=
 ((Aa4 (Ag9 a0) 0 : Option ((Int × Int) ⊕ Unit))).bind fun o0 => (match o0 with | .inl p0 => (some p0) | .inr p1 => (some (0, 0)))
def Agv (a0 : List BV) (a1 : Aa6) (s0 : Int) : Option (Int ⊕ (Bool ⊕ Unit)) :=
 if decide (s0 < (a1.Abs.length : Int)) = true then ((idx a1.Abs s0).bind fun x0 => (Aig a0 x0).bind fun x1 => if (!x1) = true then (some (.inr (.inl false))) else (some (.inl (wr (s0 + 1))))) else (some (.inr (.inr (()))))
def Ale (a0 : List BV) (a1 : Aa6) : Option Bool :=
 ((Aa4 (Agv a0 a1) 0 : Option (Bool ⊕ Unit))).bind fun o0 => (match o0 with | .inl p0 => (some p0) | .inr p1 => (if decide ((a1.Abs.length : Int) ≤ 8) = true then (if ((a1.Result.toNat : Int) == 0) = true then (some true) else ((Aig a0 a1.Result).bind fun x0 => some x0)) else (some false)))
def Alu (a0 : Int) : Option (B0 × Int) :=
 if decide (a0 < 0) = true then (some ((⟨0, 0, (Vector.replicate 24 (0 : UInt8))⟩ : B0), 1)) else (if decide (a0 > 16) = true then (some ((⟨0, 0, (Vector.replicate 24 (0 : UInt8))⟩ : B0), 1)) else (some ((⟨a0, 0, (Vector.replicate 24 (0 : UInt8))⟩ : B0), 0)))
def Alf (a0 : List BV) (a1 : UInt8) : Option Bool :=
 (Aff a0 a1).bind fun x22 => if x22 = true then (if ((a1.toNat : Int) != 0) = true then (some ((a1.toNat : Int) != 3)) else (some false)) else (some false)
def Afn (a0 : List BV) (a1 : List UInt8) (s0 : (Vector UInt8 24) × Int) : Option (((Vector UInt8 24) × Int) ⊕ ((B0 × Int) ⊕ ((Vector UInt8 24)))) :=
 if decide (s0.2 < (a1.length : Int)) = true then ((idx a1 s0.2).bind fun x0 => (Alf a0 x0).bind fun x1 => if (!x1) = true then (some (.inr (.inl ((⟨0, 0, (Vector.replicate 24 (0 : UInt8))⟩ : B0), 1)))) else ((idx s0.1.toList s0.2).bind fun x2 => some (.inl ((Amj s0.1 s0.2 x0), wr (s0.2 + 1))))) else (some (.inr (.inr (s0.1))))
def Ags (a0 : List BV) (a1 : List UInt8) (a2 : Int) : Option (B0 × Int) :=
 (Alu a2).bind fun x38 => if (x38.2 != 0) = true then (some ((⟨0, 0, (Vector.replicate 24 (0 : UInt8))⟩ : B0), 1)) else (if decide ((a1.length : Int) > 8) = true then (some ((⟨0, 0, (Vector.replicate 24 (0 : UInt8))⟩ : B0), 1)) else (if decide ((a1.length : Int) > a2) = true then (some ((⟨0, 0, (Vector.replicate 24 (0 : UInt8))⟩ : B0), 1)) else (((Aa4 (Afn a0 a1) (x38.1.Slots, 0) : Option ((B0 × Int) ⊕ ((Vector UInt8 24))))).bind fun o0 => (match o0 with | .inl p0 => (some p0) | .inr p1 => (some ((⟨x38.1.Locals, x38.1.Height, p1⟩ : B0), 0))))))
def Aep (a0 : GG) (s0 : Int) : Option (Int ⊕ (Int ⊕ Unit)) :=
 if decide (s0 < (a0.OS.length : Int)) = true then ((idx a0.OS s0).bind fun x0 => if decide ((x0.Abs.length : Int) > 8) = true then (some (.inr (.inl 4))) else ((idx a0.OS s0).bind fun x1 => (Ale a0.Classes x1).bind fun x2 => if (!x2) = true then (some (.inr (.inl 22))) else (some (.inl (wr (s0 + 1)))))) else (some (.inr (.inr (()))))
def Ah1 (a0 : GG) (a1 : Int) : Option Int :=
 (Ake a0.Classes).bind fun x27 => if (x27.2 != 0) = true then (some x27.2) else (if decide ((a0.OS.length : Int) > 64) = true then (some 4) else (((Aa4 (Aep a0) 0 : Option (Int ⊕ Unit))).bind fun o0 => (match o0 with | .inl p0 => (some p0) | .inr p1 => (if decide (a0.Fn < 0) = true then (some 71) else (if decide (a0.Fn ≥ (a0.OS.length : Int)) = true then (some 71) else ((idx a0.OS a0.Fn).bind fun x0 => (Ags a0.Classes x0.Abs a1).bind fun x1 => some x1.2))))))
def Aie (a0 : UInt8) : Option (Int × Int) :=
 if ((a0.toNat : Int) == 1) = true then (some (4, 0)) else ((if ((a0.toNat : Int) == 19) = true then (some true) else (some ((a0.toNat : Int) == 20))).bind fun o0 => (if o0 = true then (some (2, 0)) else ((if ((a0.toNat : Int) == 24) = true then (some true) else (some ((a0.toNat : Int) == 25))).bind fun o1 => (if o1 = true then (some (1, 1)) else ((if ((a0.toNat : Int) == 2) = true then (some true) else (if ((a0.toNat : Int) == 4) = true then (some true) else (if ((a0.toNat : Int) == 5) = true then (some true) else (if ((a0.toNat : Int) == 21) = true then (some true) else (if ((a0.toNat : Int) == 23) = true then (some true) else (if ((a0.toNat : Int) == 30) = true then (some true) else (if ((a0.toNat : Int) == 31) = true then (some true) else (some ((a0.toNat : Int) == 32))))))))).bind fun o2 => (if o2 = true then (some (1, 0)) else (some (0, 0))))))))
def Agg (a0 : UInt8) : Option Int :=
 if decide ((a0.toNat : Int) ≥ 34) = true then (some 0) else ((Aie a0).bind fun x26 => some (wr ((wr (1 + x26.1)) + x26.2)))
def Ahx (a0 : List UInt8) (a1 : Int) (s0 : Int × Int) : Option ((Int × Int) ⊕ Int) :=
 if decide (s0.2 < a1) = true then ((idx a0 s0.2).bind fun x0 => some (.inl (wr ((wr (256 * s0.1)) + (x0.toNat : Int)), wr (s0.2 + 1)))) else (some (.inr s0.1))
def Ak1 (a0 : List UInt8) (a1 : Int) : Option Int :=
 (Aa4 (Ahx a0 a1) (0, 0)).bind fun o0 => (if (a1 == 4) = true then (if decide (o0 > 2147483647) = true then (some (wr (o0 - 4294967296))) else (some o0)) else (some o0))
def Ag2 (a0 : List UInt8) (a1 : Int) : Option (CO × Int) :=
 if decide (a1 < 0) = true then (some ((⟨0, 0, 0, 0⟩ : CO), 1)) else (if decide (a1 > (a0.length : Int)) = true then (some ((⟨0, 0, 0, 0⟩ : CO), 1)) else (if (a1 == (a0.length : Int)) = true then (some ((⟨0, 0, 0, 0⟩ : CO), 2)) else ((idx a0 a1).bind fun x0 => (Agg x0).bind fun x1 => if (x1 == 0) = true then (some ((⟨0, 0, 0, 0⟩ : CO), 40)) else (if decide ((wr ((a0.length : Int) - a1)) < x1) = true then (some ((⟨0, 0, 0, 0⟩ : CO), 2)) else ((Aie x0).bind fun x2 => (Aok a0 (wr (a1 + 1)) (a0.length : Int)).bind fun x3 => (Ak1 x3 x2.1).bind fun x4 => (Aok a0 (wr ((wr (a1 + 1)) + x2.1)) (a0.length : Int)).bind fun x5 => (Ak1 x5 x2.2).bind fun x6 => if ((x0.toNat : Int) == 2) = true then (if decide (x4 > 1) = true then (some ((⟨0, 0, 0, 0⟩ : CO), 5)) else (some ((⟨a1, x0, x4, x6⟩ : CO), 0))) else (some ((⟨a1, x0, x4, x6⟩ : CO), 0)))))))
def Aev (a0 : LX) (a1 : Int) (a2 : Int) (s0 : Int) : Option (Int ⊕ (Bool ⊕ Unit)) :=
 if decide (s0 < (a0.Taken.length : Int)) = true then ((idx a0.Taken s0).bind fun x0 => if decide (x0 > 0) = true then (if (s0 != a1) = true then ((idx a0.Taken s0).bind fun x1 => if decide (a1 < (wr (s0 + x1))) = true then (if decide (s0 < (wr (a1 + a2))) = true then (some (.inr (.inl true))) else (some (.inl (wr (s0 + 1))))) else (some (.inl (wr (s0 + 1))))) else (some (.inl (wr (s0 + 1))))) else (some (.inl (wr (s0 + 1))))) else (some (.inr (.inr (()))))
def Aho (a0 : LX) (a1 : Int) (a2 : Int) : Option Bool :=
 ((Aa4 (Aev a0 a1 a2) 0 : Option (Bool ⊕ Unit))).bind fun o0 => (match o0 with | .inl p0 => (some p0) | .inr p1 => (some false))
def Ajv (a0 : List BV) (a1 : UInt8) : Option Bool :=
 (Aff a0 a1).bind fun x22 => if x22 = true then (if ((a1.toNat : Int) != 0) = true then (some ((a1.toNat : Int) != 3)) else (some false)) else (some false)
def Af7 (a0 : GG) (x0 : Aa6) (s0 : Int) : Option (Int ⊕ (Bool ⊕ Unit)) :=
 if decide (s0 < (x0.Abs.length : Int)) = true then ((idx x0.Abs s0).bind fun x1 => (Ajv a0.Classes x1).bind fun x2 => if (!x2) = true then (some (.inr (.inl false))) else (some (.inl (wr (s0 + 1))))) else (some (.inr (.inr (()))))
def Af8 (a0 : GG) (s0 : Int) : Option (Int ⊕ (Bool ⊕ Unit)) :=
 if decide (s0 < (a0.OS.length : Int)) = true then ((idx a0.OS s0).bind fun x0 => ((if decide ((x0.Abs.length : Int) > 8) = true then (some (.inl false)) else (if ((x0.Result.toNat : Int) != 0) = true then ((Ajv a0.Classes x0.Result).bind fun x1 => if (!x1) = true then (some (.inl false)) else (some (.inr ((true, (!x1)))))) else (some (.inr ((false, false))))) : Option (Bool ⊕ (Bool × Bool)))).bind fun o0 => (match o0 with | .inl p0 => (some (.inr (.inl p0))) | .inr p1 => (((Aa4 (Af7 a0 x0) 0 : Option (Bool ⊕ Unit))).bind fun o1 => (match o1 with | .inl p2 => (some (.inr (.inl p2))) | .inr p3 => (some (.inl (wr (s0 + 1)))))))) else (some (.inr (.inr (()))))
def Aj8 (a0 : GG) : Option Bool :=
 (Ake a0.Classes).bind fun x57 => if (x57.2 != 0) = true then (some false) else (if decide ((a0.OS.length : Int) > 64) = true then (some false) else (if decide (a0.Fn < 0) = true then (some false) else (if decide (a0.Fn ≥ (a0.OS.length : Int)) = true then (some false) else (((Aa4 (Af8 a0) 0 : Option (Bool ⊕ Unit))).bind fun o0 => (match o0 with | .inl p0 => (some p0) | .inr p1 => (some true))))))
def Aiy (a0 : B0) : Option Bool :=
 if decide (a0.Locals ≥ 0) = true then (if decide (a0.Locals ≤ 16) = true then (if decide (a0.Height ≥ 0) = true then (if decide (a0.Height ≤ 24) = true then (some (decide ((wr (a0.Locals + a0.Height)) ≤ 24))) else (some false)) else (some false)) else (some false)) else (some false)
def Ahh (a1 : B0) (s0 : Int) : Option (Int ⊕ (Int ⊕ Unit)) :=
 if decide (s0 < 24) = true then ((idx a1.Slots.toList s0).bind fun x0 => if ((x0.toNat : Int) != 0) = true then (some (.inr (.inl 32))) else (some (.inl (wr (s0 + 1))))) else (some (.inr (.inr (()))))
def Ahi (a0 : List BV) (a1 : B0) (s0 : Int) : Option (Int ⊕ (Int ⊕ Unit)) :=
 if decide (s0 < (wr (a1.Locals + a1.Height))) = true then ((idx a1.Slots.toList s0).bind fun x0 => (Aff a0 x0).bind fun x1 => if (!x1) = true then (some (.inr (.inl 22))) else (some (.inl (wr (s0 + 1))))) else (some (.inr (.inr (()))))
def Ahp (a0 : List BV) (a1 : B0) : Option Int :=
 (Aiy (⟨a1.Locals, a1.Height, a1.Slots⟩ : B0)).bind fun x52 => if (!x52) = true then (some 32) else (((Aa4 (Ahh a1) (wr (a1.Locals + a1.Height)) : Option (Int ⊕ Unit))).bind fun o0 => (match o0 with | .inl p0 => (some p0) | .inr p1 => (((Aa4 (Ahi a0 a1) 0 : Option (Int ⊕ Unit))).bind fun o1 => (match o1 with | .inl p2 => (some p2) | .inr p3 => (some 0)))))
def Ais (a0 : GG) (a1 : CO) : Option Int :=
 ((if ((a1.Op.toNat : Int) == 21) = true then (if decide (a1.A < 0) = true then (some (.inl 71)) else (if decide (a1.A ≥ (a0.OS.length : Int)) = true then (some (.inl 71)) else (some (.inr (()))))) else ((if ((a1.Op.toNat : Int) == 23) = true then (some true) else (if ((a1.Op.toNat : Int) == 30) = true then (some true) else (if ((a1.Op.toNat : Int) == 31) = true then (some true) else (if ((a1.Op.toNat : Int) == 24) = true then (some true) else (some ((a1.Op.toNat : Int) == 25)))))).bind fun o0 => (if o0 = true then (if decide (a1.A < 0) = true then (some (.inl 72)) else (if decide (a1.A ≥ (a0.Classes.length : Int)) = true then (some (.inl 72)) else (some (.inr (()))))) else (some (.inr (()))))) : Option (Int ⊕ Unit))).bind fun o1 => (match o1 with | .inl p0 => (some p0) | .inr p1 => (if ((a1.Op.toNat : Int) == 24) = true then (if decide (a1.B < 0) = true then (some 72) else ((Afq a0.Classes a1.A).bind fun x0 => if decide (a1.B ≥ (x0.length : Int)) = true then (some 72) else (some 0))) else (if ((a1.Op.toNat : Int) == 25) = true then (if decide (a1.B < 0) = true then (some 72) else ((Afq a0.Classes a1.A).bind fun x1 => if decide (a1.B ≥ (x1.length : Int)) = true then (some 72) else (some 0))) else (some 0))))
def Ajh (a0 : UInt8) : Option ((List UInt8)) :=
 if ((a0.toNat : Int) == 0) = true then (some ([] : List UInt8)) else (some ([a0] : List UInt8))
def Agn (a0 : Int) : Option UInt8 :=
 some (Aiq (16 + ((Aiq a0).toNat : Int)))
def Al0 (a0 : GG) (a1 : CO) : Option ((List UInt8)) :=
 if ((a1.Op.toNat : Int) == 5) = true then (some ([(254 : UInt8)] : List UInt8)) else ((if ((a1.Op.toNat : Int) == 6) = true then (some true) else (some ((a1.Op.toNat : Int) == 7))).bind fun o0 => (if o0 = true then (some ([(255 : UInt8)] : List UInt8)) else (if ((a1.Op.toNat : Int) == 8) = true then (some ([(255 : UInt8), (255 : UInt8)] : List UInt8)) else ((if ((a1.Op.toNat : Int) == 9) = true then (some true) else (if ((a1.Op.toNat : Int) == 10) = true then (some true) else (if ((a1.Op.toNat : Int) == 11) = true then (some true) else (if ((a1.Op.toNat : Int) == 12) = true then (some true) else (if ((a1.Op.toNat : Int) == 13) = true then (some true) else (some ((a1.Op.toNat : Int) == 15))))))).bind fun o1 => (if o1 = true then (some ([(1 : UInt8), (1 : UInt8)] : List UInt8)) else ((if ((a1.Op.toNat : Int) == 14) = true then (some true) else (if ((a1.Op.toNat : Int) == 26) = true then (some true) else (some ((a1.Op.toNat : Int) == 33)))).bind fun o2 => (if o2 = true then (some ([(1 : UInt8)] : List UInt8)) else (if ((a1.Op.toNat : Int) == 16) = true then (some ([(255 : UInt8), (255 : UInt8)] : List UInt8)) else ((if ((a1.Op.toNat : Int) == 17) = true then (some true) else (some ((a1.Op.toNat : Int) == 20))).bind fun o3 => (if o3 = true then (some ([(2 : UInt8)] : List UInt8)) else (if ((a1.Op.toNat : Int) == 18) = true then (some ([(253 : UInt8), (253 : UInt8)] : List UInt8)) else (if ((a1.Op.toNat : Int) == 21) = true then ((idx a0.OS a1.A).bind fun x0 => some x0.Abs) else (if ((a1.Op.toNat : Int) == 22) = true then ((idx a0.OS a0.Fn).bind fun x1 => (Ajh x1.Result).bind fun x2 => some x2) else (if ((a1.Op.toNat : Int) == 24) = true then ((Agn a1.A).bind fun x3 => some ([x3] : List UInt8)) else (if ((a1.Op.toNat : Int) == 25) = true then ((Agn a1.A).bind fun x4 => (Afq a0.Classes a1.A).bind fun x5 => (idx x5 a1.B).bind fun x6 => some ([x4, x6.Akl] : List UInt8)) else (if ((a1.Op.toNat : Int) == 27) = true then (some ([(4 : UInt8)] : List UInt8)) else (if ((a1.Op.toNat : Int) == 28) = true then (some ([(4 : UInt8), (1 : UInt8)] : List UInt8)) else (if ((a1.Op.toNat : Int) == 29) = true then (some ([(4 : UInt8), (1 : UInt8), (1 : UInt8)] : List UInt8)) else (if ((a1.Op.toNat : Int) == 30) = true then (some ([(253 : UInt8)] : List UInt8)) else (if ((a1.Op.toNat : Int) == 31) = true then (some ([(253 : UInt8)] : List UInt8)) else (some ([] : List UInt8))))))))))))))))))))))
def Ahn (a0 : UInt8) : Option Bool :=
 if ((a0.toNat : Int) == 3) = true then (some true) else (if ((a0.toNat : Int) == 4) = true then (some true) else (if ((a0.toNat : Int) == 5) = true then (some true) else (some (decide ((a0.toNat : Int) ≥ 16)))))
def Aih (a2 : UInt8) (x0 : (List Int)) (s0 : Int) : Option (Int ⊕ (Bool ⊕ Unit)) :=
 if decide (s0 < (x0.length : Int)) = true then ((idx x0 s0).bind fun x1 => if (x1 == ((Aiq ((a2.toNat : Int) - 16)).toNat : Int)) = true then (some (.inr (.inl true))) else (some (.inl (wr (s0 + 1))))) else (some (.inr (.inr (()))))
def Ai6 (a0 : List BV) (a1 : UInt8) (a2 : UInt8) : Option Bool :=
 (Aff a0 a1).bind fun x34 => if (!x34) = true then (some false) else ((Aff a0 a2).bind fun x50 => if (!x50) = true then (some false) else (((if ((a1.toNat : Int) == (a2.toNat : Int)) = true then (some (.inl true)) else (if ((a2.toNat : Int) == 0) = true then (some (.inl true)) else (if ((a1.toNat : Int) == 3) = true then ((Ahn a2).bind fun x0 => if x0 = true then (some (.inl true)) else ((Ahn a1).bind fun x1 => if x1 = true then (if ((a2.toNat : Int) == 5) = true then (some (.inl true)) else (some (.inr (())))) else (some (.inr (()))))) else ((Ahn a1).bind fun x2 => if x2 = true then (if ((a2.toNat : Int) == 5) = true then (some (.inl true)) else (some (.inr (())))) else (some (.inr (())))))) : Option (Bool ⊕ Unit))).bind fun o0 => (match o0 with | .inl p0 => (some p0) | .inr p1 => (if decide ((a1.toNat : Int) < 16) = true then (some false) else (if decide ((a2.toNat : Int) < 16) = true then (some false) else ((Ak3 a0 ((Aiq ((a1.toNat : Int) - 16)).toNat : Int)).bind fun x3 => ((Aa4 (Aih a2 x3) 0 : Option (Bool ⊕ Unit))).bind fun o1 => (match o1 with | .inl p2 => (some p2) | .inr p3 => (some false))))))))
def Alg (a0 : List BV) (a1 : UInt8) (a2 : UInt8) : Option Bool :=
 if ((a2.toNat : Int) == 255) = true then (some true) else (if ((a2.toNat : Int) == 254) = true then (some ((a1.toNat : Int) != 0)) else (if ((a2.toNat : Int) == 253) = true then ((Ahn a1).bind fun x72 => some x72) else ((Ai6 a0 a1 a2).bind fun x94 => some x94)))
def Al3 (a0 : GG) (a1 : CO) : Option ((List UInt8)) :=
 (if ((a1.Op.toNat : Int) == 1) = true then (some true) else (if ((a1.Op.toNat : Int) == 9) = true then (some true) else (if ((a1.Op.toNat : Int) == 10) = true then (some true) else (if ((a1.Op.toNat : Int) == 11) = true then (some true) else (if ((a1.Op.toNat : Int) == 12) = true then (some true) else (if ((a1.Op.toNat : Int) == 13) = true then (some true) else (if ((a1.Op.toNat : Int) == 14) = true then (some true) else (if ((a1.Op.toNat : Int) == 27) = true then (some true) else (some ((a1.Op.toNat : Int) == 28)))))))))).bind fun o0 => (if o0 = true then (some ([(1 : UInt8)] : List UInt8)) else ((if ((a1.Op.toNat : Int) == 2) = true then (some true) else (if ((a1.Op.toNat : Int) == 15) = true then (some true) else (if ((a1.Op.toNat : Int) == 16) = true then (some true) else (if ((a1.Op.toNat : Int) == 17) = true then (some true) else (if ((a1.Op.toNat : Int) == 18) = true then (some true) else (some ((a1.Op.toNat : Int) == 31))))))).bind fun o1 => (if o1 = true then (some ([(2 : UInt8)] : List UInt8)) else (if ((a1.Op.toNat : Int) == 3) = true then (some ([(3 : UInt8)] : List UInt8)) else (if ((a1.Op.toNat : Int) == 4) = true then (some ([(255 : UInt8)] : List UInt8)) else ((if ((a1.Op.toNat : Int) == 7) = true then (some true) else (some ((a1.Op.toNat : Int) == 8))).bind fun o2 => (if o2 = true then (some ([(255 : UInt8), (255 : UInt8)] : List UInt8)) else (if ((a1.Op.toNat : Int) == 21) = true then ((idx a0.OS a1.A).bind fun x0 => (Ajh x0.Result).bind fun x1 => some x1) else ((if ((a1.Op.toNat : Int) == 23) = true then (some true) else (some ((a1.Op.toNat : Int) == 30))).bind fun o3 => (if o3 = true then ((Agn a1.A).bind fun x2 => some ([x2] : List UInt8)) else (if ((a1.Op.toNat : Int) == 24) = true then ((Afq a0.Classes a1.A).bind fun x3 => (idx x3 a1.B).bind fun x4 => (Ajh x4.Akl).bind fun x5 => some x5) else (if ((a1.Op.toNat : Int) == 26) = true then (some ([(4 : UInt8)] : List UInt8)) else (some ([] : List UInt8))))))))))))))
def Ah0 (s0 : (Vector UInt8 24) × Int) : Option (((Vector UInt8 24) × Int) ⊕ (((Vector UInt8 24)))) :=
 if decide (s0.2 < 24) = true then ((idx s0.1.toList s0.2).bind fun x0 => some (.inl ((Amj s0.1 s0.2 (0 : UInt8)), wr (s0.2 + 1)))) else (some (.inr s0.1))
def Ak0 (a0 : B0) : Option B0 :=
 (Aa4 (Ah0) (a0.Slots, wr (a0.Locals + a0.Height))).bind fun o0 => (some (⟨a0.Locals, a0.Height, o0⟩ : B0))
def Ani (a0 : B0) : Option (B0 × UInt8 × Int) :=
 (Aiy (⟨a0.Locals, a0.Height, a0.Slots⟩ : B0)).bind fun x76 => if (!x76) = true then (some ((⟨0, 0, (Vector.replicate 24 (0 : UInt8))⟩ : B0), (0 : UInt8), 32)) else (if (a0.Height == 0) = true then (some ((⟨0, 0, (Vector.replicate 24 (0 : UInt8))⟩ : B0), (0 : UInt8), 30)) else ((idx a0.Slots.toList (wr ((wr (a0.Locals + a0.Height)) - 1))).bind fun x0 => (Ak0 (⟨a0.Locals, wr (a0.Height - 1), a0.Slots⟩ : B0)).bind fun x1 => some ((⟨x1.Locals, x1.Height, x1.Slots⟩ : B0), x0, 0)))
def Amq (a0 : B0) (a1 : UInt8) : Option (B0 × Int) :=
 (Aiy (⟨a0.Locals, a0.Height, a0.Slots⟩ : B0)).bind fun x76 => if (!x76) = true then (some ((⟨0, 0, (Vector.replicate 24 (0 : UInt8))⟩ : B0), 32)) else (if ((wr (a0.Locals + a0.Height)) == 24) = true then (some ((⟨0, 0, (Vector.replicate 24 (0 : UInt8))⟩ : B0), 31)) else ((Ak0 (⟨a0.Locals, a0.Height, a0.Slots⟩ : B0)).bind fun x0 => (idx x0.Slots.toList (wr (a0.Locals + a0.Height))).bind fun x1 => some ((⟨x0.Locals, wr (x0.Height + 1), (Amj x0.Slots (wr (a0.Locals + a0.Height)) a1)⟩ : B0), 0)))
def Ae5 (a0 : GG) (a1 : B0) (x89 : (List UInt8)) (s0 : (List UInt8) × Int) : Option (((List UInt8) × Int) ⊕ ((B0 × Int) ⊕ ((List UInt8)))) :=
 if decide (s0.2 < (x89.length : Int)) = true then ((idx x89 s0.2).bind fun x0 => (idx a1.Slots.toList (wr ((wr ((wr (a1.Locals + a1.Height)) - (x89.length : Int))) + s0.2))).bind fun x1 => (Alg a0.Classes x1 x0).bind fun x2 => if (!x2) = true then (some (.inr (.inl ((⟨0, 0, (Vector.replicate 24 (0 : UInt8))⟩ : B0), 70)))) else ((app 140737488355328 s0.1 ([x1] : List UInt8)).bind fun x3 => some (.inl (x3, wr (s0.2 + 1))))) else (some (.inr (.inr (s0.1))))
def Aiu (x89 : (List UInt8)) (s0 : Int × Int × (Vector UInt8 24) × Int) : Option ((Int × Int × (Vector UInt8 24) × Int) ⊕ ((Int × Int × (Vector UInt8 24)))) :=
 if decide (s0.2.2.2 < (x89.length : Int)) = true then ((Ani (⟨s0.1, s0.2.1, s0.2.2.1⟩ : B0)).bind fun x0 => some (.inl (x0.1.Locals, x0.1.Height, x0.1.Slots, wr (s0.2.2.2 + 1)))) else (some (.inr (s0.1, s0.2.1, s0.2.2.1)))
def Agb (p0 : (List UInt8)) (s0 : Int × Int × (Vector UInt8 24) × Int) : Option ((Int × Int × (Vector UInt8 24) × Int) ⊕ ((B0 × Int) ⊕ (Int × Int × (Vector UInt8 24)))) :=
 if decide (s0.2.2.2 < (p0.length : Int)) = true then ((idx p0 s0.2.2.2).bind fun x0 => (Amq (⟨s0.1, s0.2.1, s0.2.2.1⟩ : B0) x0).bind fun x1 => if (x1.2 != 0) = true then (some (.inr (.inl ((⟨0, 0, (Vector.replicate 24 (0 : UInt8))⟩ : B0), x1.2)))) else (some (.inl (x1.1.Locals, x1.1.Height, x1.1.Slots, wr (s0.2.2.2 + 1))))) else (some (.inr (.inr ((s0.1, s0.2.1, s0.2.2.1)))))
def Aka (a0 : GG) (a1 : B0) (a2 : CO) : Option (B0 × Int) :=
 (Al0 (⟨a0.Classes, a0.OS, a0.Fn⟩ : GG) (⟨a2.At, a2.Op, a2.A, a2.B⟩ : CO)).bind fun x89 => if decide (a1.Height < (x89.length : Int)) = true then (some ((⟨0, 0, (Vector.replicate 24 (0 : UInt8))⟩ : B0), 30)) else (((Aa4 (Ae5 a0 a1 x89) ([], 0) : Option ((B0 × Int) ⊕ ((List UInt8))))).bind fun o0 => (match o0 with | .inl p0 => (some p0) | .inr p1 => (((if ((a2.Op.toNat : Int) == 16) = true then ((idx p1 0).bind fun x0 => (idx p1 1).bind fun x1 => if ((x0.toNat : Int) != (x1.toNat : Int)) = true then (some (.inl ((⟨0, 0, (Vector.replicate 24 (0 : UInt8))⟩ : B0), 70))) else ((idx p1 0).bind fun x2 => if ((x2.toNat : Int) != 1) = true then ((idx p1 0).bind fun x3 => if ((x3.toNat : Int) != 2) = true then (some (.inl ((⟨0, 0, (Vector.replicate 24 (0 : UInt8))⟩ : B0), 70))) else (some (.inr (())))) else (some (.inr (()))))) else (some (.inr (()))) : Option ((B0 × Int) ⊕ Unit))).bind fun o1 => (match o1 with | .inl p2 => (some p2) | .inr p3 => ((Al3 (⟨a0.Classes, a0.OS, a0.Fn⟩ : GG) (⟨a2.At, a2.Op, a2.A, a2.B⟩ : CO)).bind fun x4 => ((if ((a2.Op.toNat : Int) == 4) = true then ((idx a1.Slots.toList a2.A).bind fun x5 => if ((x5.toNat : Int) == 0) = true then (some (.inl ((⟨0, 0, (Vector.replicate 24 (0 : UInt8))⟩ : B0), 70))) else ((idx a1.Slots.toList a2.A).bind fun x6 => some (.inr (([x6] : List UInt8))))) else (if ((a2.Op.toNat : Int) == 7) = true then ((idx p1 0).bind fun x7 => (idx p1 0).bind fun x8 => some (.inr (([x7, x8] : List UInt8)))) else (if ((a2.Op.toNat : Int) == 8) = true then ((idx p1 1).bind fun x9 => (idx p1 0).bind fun x10 => some (.inr (([x9, x10] : List UInt8)))) else (some (.inr (x4))))) : Option ((B0 × Int) ⊕ ((List UInt8))))).bind fun o2 => (match o2 with | .inl p4 => (some p4) | .inr p5 => ((Aa4 (Aiu x89) (a1.Locals, a1.Height, a1.Slots, 0)).bind fun o3 => (((if ((a2.Op.toNat : Int) == 22) = true then (if decide (o3.2.1 > 0) = true then (some (.inl ((⟨0, 0, (Vector.replicate 24 (0 : UInt8))⟩ : B0), 73))) else (some (.inr (())))) else (some (.inr (()))) : Option ((B0 × Int) ⊕ Unit))).bind fun o4 => (match o4 with | .inl p6 => (some p6) | .inr p7 => ((if ((a2.Op.toNat : Int) == 5) = true then ((idx p1 0).bind fun x11 => (idx o3.2.2.toList a2.A).bind fun x12 => some (Amj o3.2.2 a2.A x11)) else (some o3.2.2)).bind fun o5 => (((Aa4 (Agb p5) (o3.1, o3.2.1, o5, 0) : Option ((B0 × Int) ⊕ (Int × Int × (Vector UInt8 24))))).bind fun o6 => (match o6 with | .inl p8 => (some p8) | .inr p9 => (some ((⟨p9.1, p9.2.1, p9.2.2⟩ : B0), 0))))))))))))))
def Al4 (a0 : GG) (a1 : B0) (a2 : CO) : Option (B0 × Int) :=
 (Aj8 (⟨a0.Classes, a0.OS, a0.Fn⟩ : GG)).bind fun x0 => if (!x0) = true then (some ((⟨0, 0, (Vector.replicate 24 (0 : UInt8))⟩ : B0), 1)) else ((Ahp a0.Classes (⟨a1.Locals, a1.Height, a1.Slots⟩ : B0)).bind fun x1 => if (x1 != 0) = true then (some ((⟨0, 0, (Vector.replicate 24 (0 : UInt8))⟩ : B0), x1)) else ((Agg a2.Op).bind fun x2 => if (x2 == 0) = true then (some ((⟨0, 0, (Vector.replicate 24 (0 : UInt8))⟩ : B0), 40)) else ((if ((a2.Op.toNat : Int) == 4) = true then (some true) else (some ((a2.Op.toNat : Int) == 5))).bind fun o0 => (if o0 = true then (if decide (a2.A < 0) = true then (some ((⟨0, 0, (Vector.replicate 24 (0 : UInt8))⟩ : B0), 33)) else (if decide (a2.A ≥ a1.Locals) = true then (some ((⟨0, 0, (Vector.replicate 24 (0 : UInt8))⟩ : B0), 33)) else ((Ais (⟨a0.Classes, a0.OS, a0.Fn⟩ : GG) (⟨a2.At, a2.Op, a2.A, a2.B⟩ : CO)).bind fun x3 => if (x3 != 0) = true then (some ((⟨0, 0, (Vector.replicate 24 (0 : UInt8))⟩ : B0), x3)) else ((Aka (⟨a0.Classes, a0.OS, a0.Fn⟩ : GG) (⟨a1.Locals, a1.Height, a1.Slots⟩ : B0) (⟨a2.At, a2.Op, a2.A, a2.B⟩ : CO)).bind fun x4 => some ((⟨x4.1.Locals, x4.1.Height, x4.1.Slots⟩ : B0), x4.2))))) else ((Ais (⟨a0.Classes, a0.OS, a0.Fn⟩ : GG) (⟨a2.At, a2.Op, a2.A, a2.B⟩ : CO)).bind fun x5 => if (x5 != 0) = true then (some ((⟨0, 0, (Vector.replicate 24 (0 : UInt8))⟩ : B0), x5)) else ((Aka (⟨a0.Classes, a0.OS, a0.Fn⟩ : GG) (⟨a1.Locals, a1.Height, a1.Slots⟩ : B0) (⟨a2.At, a2.Op, a2.A, a2.B⟩ : CO)).bind fun x6 => some ((⟨x6.1.Locals, x6.1.Height, x6.1.Slots⟩ : B0), x6.2)))))))
def Aod (a0 : UInt8) : Option Bool :=
 if ((a0.toNat : Int) == 19) = true then (some true) else (some ((a0.toNat : Int) == 20))
def Ao2 (a0 : UInt8) : Option Bool :=
 if ((a0.toNat : Int) == 19) = true then (some true) else (if ((a0.toNat : Int) == 22) = true then (some true) else (some ((a0.toNat : Int) == 32)))
def Al7 (a0 : CO) (a1 : Int) : Option ((List Int) × Int) :=
 (Agg a0.Op).bind fun x21 => (Aod a0.Op).bind fun x39 => (Ao2 a0.Op).bind fun x63 => ((if x39 = true then (if decide (a0.A ≥ a1) = true then (some (.inl (([] : List Int), 50))) else (some (.inr (())))) else (some (.inr (()))) : Option (((List Int) × Int) ⊕ Unit))).bind fun o0 => (match o0 with | .inl p0 => (some p0) | .inr p1 => (((if (!x63) = true then (if ((wr (a0.At + x21)) == a1) = true then (some (.inl (([] : List Int), 51))) else (some (.inr (())))) else (some (.inr (()))) : Option (((List Int) × Int) ⊕ Unit))).bind fun o1 => (match o1 with | .inl p2 => (some p2) | .inr p3 => ((if x39 = true then (if (!(!x63)) = true then ((app 17592186044416 ([] : List Int) ([a0.A] : List Int)).bind fun x0 => some x0) else (if decide (a0.A < (wr (a0.At + x21))) = true then ((app 17592186044416 ([] : List Int) ([a0.A] : List Int)).bind fun x1 => some x1) else (some []))) else (some [])).bind fun o2 => (if (!x63) = true then ((app 17592186044416 o2 ([wr (a0.At + x21)] : List Int)).bind fun x2 => if x39 = true then (if decide (a0.A > (wr (a0.At + x21))) = true then ((app 17592186044416 x2 ([a0.A] : List Int)).bind fun x3 => some (x3, 0)) else (some (x2, 0))) else (some (x2, 0))) else (if x39 = true then (some (o2, 0)) else (some (o2, 0))))))))
def Aij (a0 : List BV) (s0 : (List UInt8) × Int) : Option (((List UInt8) × Int) ⊕ (((List UInt8)))) :=
 if decide (s0.2 < 256) = true then ((Aff a0 (Aiq s0.2)).bind fun x0 => if x0 = true then ((app 140737488355328 s0.1 ([Aiq s0.2] : List UInt8)).bind fun x1 => some (.inl (x1, wr (s0.2 + 1)))) else (some (.inl (s0.1, wr (s0.2 + 1))))) else (some (.inr s0.1))
def Ann (a0 : List BV) : Option ((List UInt8)) :=
 (Aa4 (Aij a0) ([], 0)).bind fun o0 => (some o0)
def Aha (a0 : List BV) (a1 : UInt8) (a2 : UInt8) (x18 : (List UInt8)) (s0 : UInt8 × Int) : Option ((UInt8 × Int) ⊕ UInt8) :=
 if decide (s0.2 < (x18.length : Int)) = true then ((idx x18 s0.2).bind fun x0 => (Ai6 a0 a1 x0).bind fun x1 => if x1 = true then ((Ai6 a0 a2 x0).bind fun x2 => if x2 = true then ((Ai6 a0 x0 s0.1).bind fun x3 => if x3 = true then (some (.inl (x0, wr (s0.2 + 1)))) else (some (.inl (s0.1, wr (s0.2 + 1))))) else (some (.inl (s0.1, wr (s0.2 + 1))))) else (some (.inl (s0.1, wr (s0.2 + 1))))) else (some (.inr s0.1))
def Al2 (a0 : List BV) (a1 : UInt8) (a2 : UInt8) : Option UInt8 :=
 (Ann a0).bind fun x18 => (Aa4 (Aha a0 a1 a2 x18) (0, 0)).bind fun o0 => (some o0)
def Ait (a0 : List BV) (a1 : B0) (a2 : B0) (s0 : (Vector UInt8 24) × Int) : Option (((Vector UInt8 24) × Int) ⊕ (((Vector UInt8 24)))) :=
 if decide (s0.2 < (wr (a1.Locals + a1.Height))) = true then ((idx s0.1.toList s0.2).bind fun x0 => (idx a2.Slots.toList s0.2).bind fun x1 => (Al2 a0 x0 x1).bind fun x2 => (idx s0.1.toList s0.2).bind fun x3 => some (.inl ((Amj s0.1 s0.2 x2), wr (s0.2 + 1)))) else (some (.inr s0.1))
def Alz (a0 : List BV) (a1 : B0) (a2 : B0) : Option (B0 × Int) :=
 (Ahp a0 (⟨a1.Locals, a1.Height, a1.Slots⟩ : B0)).bind fun x95 => if (x95 != 0) = true then (some ((⟨0, 0, (Vector.replicate 24 (0 : UInt8))⟩ : B0), x95)) else ((Ahp a0 (⟨a2.Locals, a2.Height, a2.Slots⟩ : B0)).bind fun x0 => if (x0 != 0) = true then (some ((⟨0, 0, (Vector.replicate 24 (0 : UInt8))⟩ : B0), x0)) else (if (a1.Locals != a2.Locals) = true then (some ((⟨0, 0, (Vector.replicate 24 (0 : UInt8))⟩ : B0), 32)) else (if (a1.Height != a2.Height) = true then (some ((⟨0, 0, (Vector.replicate 24 (0 : UInt8))⟩ : B0), 32)) else ((Aa4 (Ait a0 a1 a2) (a1.Slots, 0)).bind fun o0 => (some ((⟨a1.Locals, a1.Height, o0⟩ : B0), 0))))))
def Ajf (a0 : LX) (a1 : List BV) (a2 : Int) (a3 : B0) : Option (Int × LX) :=
 (idx a0.Has a2).bind fun x0 => if (!x0) = true then ((idx a0.Has a2).bind fun x1 => (idx a0.Frame a2).bind fun x2 => (idx a0.Aeg a2).bind fun x3 => some (0, (⟨(a0.Has.set a2.toNat true), (a0.Frame.set a2.toNat (⟨a3.Locals, a3.Height, a3.Slots⟩ : B0)), (a0.Aeg.set a2.toNat true), a0.Taken⟩ : LX))) else ((idx a0.Frame a2).bind fun x4 => (Alz a1 x4 (⟨a3.Locals, a3.Height, a3.Slots⟩ : B0)).bind fun x5 => if (x5.2 != 0) = true then (some (x5.2, (⟨a0.Has, a0.Frame, a0.Aeg, a0.Taken⟩ : LX))) else ((idx a0.Frame a2).bind fun x6 => if (!((x5.1.Locals == x6.Locals) && ((x5.1.Height == x6.Height) && ((x5.1.Slots == x6.Slots) && true)))) = true then ((idx a0.Frame a2).bind fun x7 => (idx a0.Aeg a2).bind fun x8 => some (0, (⟨a0.Has, (a0.Frame.set a2.toNat (⟨x5.1.Locals, x5.1.Height, x5.1.Slots⟩ : B0)), (a0.Aeg.set a2.toNat true), a0.Taken⟩ : LX))) else (some (0, (⟨a0.Has, a0.Frame, a0.Aeg, a0.Taken⟩ : LX)))))
def Aet (a1 : GG) (x0 : B0 × Int) (x1 : (List Int) × Int) (s0 : (List Int) × (List Bool) × (List Bool) × (List B0) × Int) : Option (((List Int) × (List Bool) × (List Bool) × (List B0) × Int) ⊕ ((Int × Int × LX) ⊕ ((List Int) × (List Bool) × (List Bool) × (List B0)))) :=
 if decide (s0.2.2.2.2 < (x1.1.length : Int)) = true then ((idx x1.1 s0.2.2.2.2).bind fun x2 => (Ajf (⟨s0.2.2.1, s0.2.2.2.1, s0.2.1, s0.1⟩ : LX) a1.Classes x2 (⟨x0.1.Locals, x0.1.Height, x0.1.Slots⟩ : B0)).bind fun x3 => if (x3.1 != 0) = true then ((idx x1.1 s0.2.2.2.2).bind fun x4 => some (.inr (.inl (x4, x3.1, (⟨x3.2.Has, x3.2.Frame, x3.2.Aeg, x3.2.Taken⟩ : LX))))) else (some (.inl (x3.2.Taken, x3.2.Aeg, x3.2.Has, x3.2.Frame, wr (s0.2.2.2.2 + 1))))) else (some (.inr (.inr ((s0.1, s0.2.1, s0.2.2.1, s0.2.2.2.1)))))
def Ai1 (a0 : LX) (a1 : GG) (a2 : List UInt8) (a3 : Int) : Option (Int × Int × LX) :=
 (idx a0.Aeg a3).bind fun x40 => if (a3 == (a2.length : Int)) = true then (some (a3, 51, (⟨a0.Has, a0.Frame, (a0.Aeg.set a3.toNat false), a0.Taken⟩ : LX))) else ((Ag2 a2 a3).bind fun x96 => if (x96.2 != 0) = true then (some (a3, x96.2, (⟨a0.Has, a0.Frame, (a0.Aeg.set a3.toNat false), a0.Taken⟩ : LX))) else ((Agg x96.1.Op).bind fun x0 => (Aho (⟨a0.Has, a0.Frame, (a0.Aeg.set a3.toNat false), a0.Taken⟩ : LX) a3 x0).bind fun x1 => if x1 = true then (some (a3, 80, (⟨a0.Has, a0.Frame, (a0.Aeg.set a3.toNat false), a0.Taken⟩ : LX))) else ((idx a0.Taken a3).bind fun x2 => (idx a0.Frame a3).bind fun x3 => (Al4 (⟨a1.Classes, a1.OS, a1.Fn⟩ : GG) x3 (⟨x96.1.At, x96.1.Op, x96.1.A, x96.1.B⟩ : CO)).bind fun x4 => if (x4.2 != 0) = true then (some (a3, x4.2, (⟨a0.Has, a0.Frame, (a0.Aeg.set a3.toNat false), (a0.Taken.set a3.toNat x0)⟩ : LX))) else ((Al7 (⟨x96.1.At, x96.1.Op, x96.1.A, x96.1.B⟩ : CO) (a2.length : Int)).bind fun x5 => if (x5.2 != 0) = true then (some (a3, x5.2, (⟨a0.Has, a0.Frame, (a0.Aeg.set a3.toNat false), (a0.Taken.set a3.toNat x0)⟩ : LX))) else (((Aa4 (Aet a1 x4 x5) ((a0.Taken.set a3.toNat x0), (a0.Aeg.set a3.toNat false), a0.Has, a0.Frame, 0) : Option ((Int × Int × LX) ⊕ ((List Int) × (List Bool) × (List Bool) × (List B0))))).bind fun o0 => (match o0 with | .inl p0 => (some p0) | .inr p1 => (some (0, 0, (⟨p1.2.2.1, p1.2.2.2, p1.2.1, p1.1⟩ : LX)))))))))
def Afg (a0 : LX) (s0 : Int) : Option (Int ⊕ (Int ⊕ Unit)) :=
 if decide (s0 < (a0.Aeg.length : Int)) = true then ((idx a0.Aeg s0).bind fun x0 => if x0 = true then (some (.inr (.inl s0))) else (some (.inl (wr (s0 + 1))))) else (some (.inr (.inr (()))))
def Ai5 (a0 : LX) : Option Int :=
 ((Aa4 (Afg a0) 0 : Option (Int ⊕ Unit))).bind fun o0 => (match o0 with | .inl p0 => (some p0) | .inr p1 => (some (-1)))
def Agc (a0 : GG) (a2 : List UInt8) (s0 : (List Bool) × (List B0) × (List Bool) × (List Int) × Int) : Option (((List Bool) × (List B0) × (List Bool) × (List Int) × Int) ⊕ (((List Ac9) × Int × Int) ⊕ ((List Bool) × (List B0) × (List Bool) × (List Int)))) :=
 if decide (s0.2.2.2.2 ≥ 0) = true then ((Ai1 (⟨s0.1, s0.2.1, s0.2.2.1, s0.2.2.2.1⟩ : LX) (⟨a0.Classes, a0.OS, a0.Fn⟩ : GG) a2 s0.2.2.2.2).bind fun x0 => if (x0.2.1 != 0) = true then (some (.inr (.inl (([] : List Ac9), x0.1, x0.2.1)))) else ((Ai5 (⟨x0.2.2.Has, x0.2.2.Frame, x0.2.2.Aeg, x0.2.2.Taken⟩ : LX)).bind fun x1 => some (.inl (x0.2.2.Has, x0.2.2.Frame, x0.2.2.Aeg, x0.2.2.Taken, x1)))) else (some (.inr (.inr ((s0.1, s0.2.1, s0.2.2.1, s0.2.2.2.1)))))
def Ag7 (a2 : List UInt8) (p0 : (List Bool) × (List B0) × (List Bool) × (List Int)) (s0 : (List Ac9) × Int) : Option (((List Ac9) × Int) ⊕ (((List Ac9)))) :=
 if decide (s0.2 < (a2.length : Int)) = true then ((idx p0.1 s0.2).bind fun x0 => if x0 = true then ((idx p0.2.1 s0.2).bind fun x1 => (app 2513169434916 s0.1 ([(⟨s0.2, false, (⟨x1.Locals, x1.Height, x1.Slots⟩ : B0)⟩ : Ac9)] : List Ac9)).bind fun x2 => some (.inl (x2, wr (s0.2 + 1)))) else (some (.inl (s0.1, wr (s0.2 + 1))))) else (some (.inr s0.1))
def Al1 (a0 : GG) (a1 : Int) (a2 : List UInt8) : Option ((List Ac9) × Int × Int) :=
 (Ah1 (⟨a0.Classes, a0.OS, a0.Fn⟩ : GG) a1).bind fun x27 => if (x27 != 0) = true then (some (([] : List Ac9), 0, x27)) else (if decide ((a2.length : Int) > 4096) = true then (some (([] : List Ac9), 0, 4)) else ((mkO 1 (wr ((a2.length : Int) + 1)) false).bind fun x0 => (mkO 40 (wr ((a2.length : Int) + 1)) (⟨(0 : Int), (0 : Int), (Vector.replicate 24 (0 : UInt8))⟩ : B0)).bind fun x1 => (mkO 1 (wr ((a2.length : Int) + 1)) false).bind fun x2 => (mkO 8 (wr ((a2.length : Int) + 1)) (0 : Int)).bind fun x3 => (idx a0.OS a0.Fn).bind fun x4 => (Ags a0.Classes x4.Abs a1).bind fun x5 => (idx x0 0).bind fun x6 => (idx x1 0).bind fun x7 => (idx x2 0).bind fun x8 => ((Aa4 (Agc a0 a2) ((x0.set ((0 : Int).toNat) true), (x1.set ((0 : Int).toNat) (⟨x5.1.Locals, x5.1.Height, x5.1.Slots⟩ : B0)), (x2.set ((0 : Int).toNat) true), x3, 0) : Option (((List Ac9) × Int × Int) ⊕ ((List Bool) × (List B0) × (List Bool) × (List Int))))).bind fun o0 => (match o0 with | .inl p0 => (some p0) | .inr p1 => ((Aa4 (Ag7 a2 p1) ([], 0)).bind fun o1 => (some (o1, 0, 0))))))
def Agj (x0 : Adh) (x1 : (List Ac9) × Int × Int) (s0 : (List CO) × Int × Int) : Option (((List CO) × Int × Int) ⊕ (((List CO) × Int))) :=
 if decide (s0.2.2 < (x1.1.length : Int)) = true then ((idx x1.1 s0.2.2).bind fun x2 => (Ag2 x0.Code x2.At).bind fun x3 => (app 4398046511104 s0.1 ([(⟨x3.1.At, x3.1.Op, x3.1.A, x3.1.B⟩ : CO)] : List CO)).bind fun x4 => (idx x1.1 s0.2.2).bind fun x5 => if decide (x5.Frame.Height > s0.2.1) = true then ((idx x1.1 s0.2.2).bind fun x6 => some (.inl (x4, x6.Frame.Height, wr (s0.2.2 + 1)))) else (some (.inl (x4, s0.2.1, wr (s0.2.2 + 1))))) else (some (.inr (s0.1, s0.2.1)))
def Afe (a0 : LK) (a1 : Int) : Option ((List CO) × Int × Int × Int) :=
 (Anq (⟨a0.Name, a0.Classes, a0.Funcs, a0.Adm⟩ : LK) a1).bind fun x44 => if (!x44.2) = true then (some (([] : List CO), 0, 0, 1)) else ((idx a0.Funcs a1).bind fun x0 => (Al1 (⟨x44.1.Classes, x44.1.OS, x44.1.Fn⟩ : GG) x0.Locals x0.Code).bind fun x1 => if (x1.2.2 != 0) = true then (some (([] : List CO), 0, x1.2.1, x1.2.2)) else ((Aa4 (Agj x0 x1) ([], 0, 0)).bind fun o0 => (some (o0.1, o0.2, 0, 0))))
def Ag8 (x29 : (List CO) × Int × Int × Int) (s0 : (List Int) × Int) (s1 : Bool × Int) : Option ((Bool × Int) ⊕ Bool) :=
 if decide (s1.2 < (x29.1.length : Int)) = true then (if s1.1 = true then (some (.inl (true, wr (s1.2 + 1)))) else ((idx x29.1 s1.2).bind fun x0 => if ((x0.Op.toNat : Int) == 21) = true then ((idx x29.1 s1.2).bind fun x1 => some (.inl ((x1.A == s0.2), wr (s1.2 + 1)))) else (some (.inl (false, wr (s1.2 + 1)))))) else (some (.inr s1.1))
def Ahg (a0 : LK) (x29 : (List CO) × Int × Int × Int) (s0 : (List Int) × Int) : Option (((List Int) × Int) ⊕ (((List Int)))) :=
 if decide (s0.2 < (a0.Funcs.length : Int)) = true then ((Aa4 (Ag8 x29 s0) (false, 0)).bind fun o0 => (if o0 = true then ((app 17592186044416 s0.1 ([s0.2] : List Int)).bind fun x0 => some (.inl (x0, wr (s0.2 + 1)))) else (some (.inl (s0.1, wr (s0.2 + 1)))))) else (some (.inr s0.1))
def Aiw (a0 : LK) (a1 : Int) : Option ((List Int) × Int × Int) :=
 (Afe (⟨a0.Name, a0.Classes, a0.Funcs, a0.Adm⟩ : LK) a1).bind fun x29 => if (x29.2.2.2 != 0) = true then (some (([] : List Int), x29.2.2.1, x29.2.2.2)) else ((Aa4 (Ahg a0 x29) ([], 0)).bind fun o0 => (some (o0, 0, 0)))
def Ahs (a0 : List Int) (a1 : List Int) (s0 : Int) : Option (Int ⊕ (Bool ⊕ Unit)) :=
 if decide (s0 < (a0.length : Int)) = true then ((idx a0 s0).bind fun x0 => (idx a1 s0).bind fun x1 => if (x0 != x1) = true then (some (.inr (.inl false))) else (some (.inl (wr (s0 + 1))))) else (some (.inr (.inr (()))))
def Akr (a0 : List Int) (a1 : List Int) : Option Bool :=
 if ((a0.length : Int) != (a1.length : Int)) = true then (some false) else (((Aa4 (Ahs a0 a1) 0 : Option (Bool ⊕ Unit))).bind fun o0 => (match o0 with | .inl p0 => (some p0) | .inr p1 => (some true)))
def Aeq (a0 : List Acg) (a1 : List Acg) (s0 : Int) : Option (Int ⊕ (Bool ⊕ Unit)) :=
 if decide (s0 < (a0.length : Int)) = true then ((idx a0 s0).bind fun x0 => (idx a1 s0).bind fun x1 => if (!((x0.Name == x1.Name) && ((x0.Akl == x1.Akl) && true))) = true then (some (.inr (.inl false))) else (some (.inl (wr (s0 + 1))))) else (some (.inr (.inr (()))))
def Af6 (a0 : List Acg) (a1 : List Acg) : Option Bool :=
 if ((a0.length : Int) != (a1.length : Int)) = true then (some false) else (((Aa4 (Aeq a0 a1) 0 : Option (Bool ⊕ Unit))).bind fun o0 => (match o0 with | .inl p0 => (some p0) | .inr p1 => (some true)))
def Agf (a0 : List BV) (a1 : List BV) (s0 : Int) : Option (Int ⊕ (Bool ⊕ Unit)) :=
 if decide (s0 < (a0.length : Int)) = true then ((idx a0 s0).bind fun x0 => (idx a1 s0).bind fun x1 => if (x0.Name != x1.Name) = true then (some (.inr (.inl false))) else ((idx a0 s0).bind fun x2 => (idx a1 s0).bind fun x3 => if (x2.Ace != x3.Ace) = true then (some (.inr (.inl false))) else ((idx a0 s0).bind fun x4 => (idx a1 s0).bind fun x5 => (Af6 x4.Fields x5.Fields).bind fun x6 => if (!x6) = true then (some (.inr (.inl false))) else (some (.inl (wr (s0 + 1))))))) else (some (.inr (.inr (()))))
def Aix (a0 : List BV) (a1 : List BV) : Option Bool :=
 if ((a0.length : Int) != (a1.length : Int)) = true then (some false) else (((Aa4 (Agf a0 a1) 0 : Option (Bool ⊕ Unit))).bind fun o0 => (match o0 with | .inl p0 => (some p0) | .inr p1 => (some true)))
def Ae4 (a0 : List UInt8) (a1 : List UInt8) (s0 : Int) : Option (Int ⊕ (Bool ⊕ Unit)) :=
 if decide (s0 < (a0.length : Int)) = true then ((idx a0 s0).bind fun x0 => (idx a1 s0).bind fun x1 => if ((x0.toNat : Int) != (x1.toNat : Int)) = true then (some (.inr (.inl false))) else (some (.inl (wr (s0 + 1))))) else (some (.inr (.inr (()))))
def Agr (a0 : List UInt8) (a1 : List UInt8) : Option Bool :=
 if ((a0.length : Int) != (a1.length : Int)) = true then (some false) else (((Aa4 (Ae4 a0 a1) 0 : Option (Bool ⊕ Unit))).bind fun o0 => (match o0 with | .inl p0 => (some p0) | .inr p1 => (some true)))
def Ako (a0 : Aa6) (a1 : Aa6) : Option Bool :=
 if ((a0.Result.toNat : Int) == (a1.Result.toNat : Int)) = true then ((Agr a0.Abs a1.Abs).bind fun x64 => some x64) else (some false)
def Agx (a0 : List UInt8) (a1 : List UInt8) (s0 : Int) : Option (Int ⊕ (Bool ⊕ Unit)) :=
 if decide (s0 < (a0.length : Int)) = true then ((idx a0 s0).bind fun x0 => (idx a1 s0).bind fun x1 => if ((x0.toNat : Int) != (x1.toNat : Int)) = true then (some (.inr (.inl false))) else (some (.inl (wr (s0 + 1))))) else (some (.inr (.inr (()))))
def Ah9 (a0 : List UInt8) (a1 : List UInt8) : Option Bool :=
 if ((a0.length : Int) != (a1.length : Int)) = true then (some false) else (((Aa4 (Agx a0 a1) 0 : Option (Bool ⊕ Unit))).bind fun o0 => (match o0 with | .inl p0 => (some p0) | .inr p1 => (some true)))
def Aki (a0 : Adh) (a1 : Adh) : Option Bool :=
 if (a0.Name == a1.Name) = true then ((Ako (⟨a0.Sig.Abs, a0.Sig.Result⟩ : Aa6) (⟨a1.Sig.Abs, a1.Sig.Result⟩ : Aa6)).bind fun x95 => if x95 = true then (if (a0.Locals == a1.Locals) = true then ((Ah9 a0.Code a1.Code).bind fun x0 => some x0) else (some false)) else (some false)) else (some false)
def Agk (a0 : LK) (a1 : LK) (s0 : Int) : Option (Int ⊕ (Bool ⊕ Unit)) :=
 if decide (s0 < (a0.Funcs.length : Int)) = true then ((idx a0.Funcs s0).bind fun x0 => (idx a1.Funcs s0).bind fun x1 => (Aki x0 x1).bind fun x2 => if (!x2) = true then (some (.inr (.inl false))) else (some (.inl (wr (s0 + 1))))) else (some (.inr (.inr (()))))
def Agl (a0 : LK) (a1 : LK) (s0 : Int) : Option (Int ⊕ (Bool ⊕ Unit)) :=
 if decide (s0 < (a0.Adm.length : Int)) = true then ((idx a0.Adm s0).bind fun x0 => (idx a1.Adm s0).bind fun x1 => (Ah9 x0 x1).bind fun x2 => if (!x2) = true then (some (.inr (.inl false))) else (some (.inl (wr (s0 + 1))))) else (some (.inr (.inr (()))))
def Ajg (a0 : LK) (a1 : LK) : Option Bool :=
 if (a0.Name != a1.Name) = true then (some false) else ((Aix a0.Classes a1.Classes).bind fun x0 => if (!x0) = true then (some false) else (if ((a0.Funcs.length : Int) != (a1.Funcs.length : Int)) = true then (some false) else (if ((a0.Adm.length : Int) != (a1.Adm.length : Int)) = true then (some false) else (((Aa4 (Agk a0 a1) 0 : Option (Bool ⊕ Unit))).bind fun o0 => (match o0 with | .inl p0 => (some p0) | .inr p1 => (((Aa4 (Agl a0 a1) 0 : Option (Bool ⊕ Unit))).bind fun o1 => (match o1 with | .inl p2 => (some p2) | .inr p3 => (some true))))))))
def Avc (a0 : LK) (a1 : Int) : Option ((List Int) × Int × Int) :=
 (Ap9 (⟨a0.Name, a0.Classes, a0.Funcs, a0.Adm⟩ : LK) a1).bind fun x29 => if (x29.2.2 != 0) = true then (some (([] : List Int), x29.2.1, x29.2.2)) else ((x29.1).bind fun x82 => ((Anl (⟨x82.l, x82.Ae3⟩ : Ads)).bind fun x90 => some (x90, 0, 0)))
def Aul (a0 : LK) (a1 : Int) : Option (Int × Int × Int) :=
 (Ap9 (⟨a0.Name, a0.Classes, a0.Funcs, a0.Adm⟩ : LK) a1).bind fun x29 => if (x29.2.2 != 0) = true then (some (0, x29.2.1, x29.2.2)) else ((x29.1).bind fun x66 => (some (x66.Ae3, 0, 0)))
def An0 (a0 : LK) (a1 : Int) : Option (Int × Int × Int) :=
 (Afe (⟨a0.Name, a0.Classes, a0.Funcs, a0.Adm⟩ : LK) a1).bind fun x29 => some (x29.2.1, x29.2.2.1, x29.2.2.2)
def Asm (a0 : CO) : Option Bool :=
 if decide (a0.At ≥ 0) = true then (some (decide (a0.At < 4096))) else (some false)
def Aq0 (a0 : CO) : Option ((List Int)) :=
 (Alw a0.Op).bind fun x48 => if (x48 == 0) = true then (some ([] : List Int)) else ((Asm (⟨a0.At, a0.Op, a0.A, a0.B⟩ : CO)).bind fun x67 => if (!x67) = true then (some ([] : List Int)) else ((Atq a0.Op).bind fun x0 => if (!x0) = true then ((Alw a0.Op).bind fun x1 => (Aqc a0.Op).bind fun x2 => if x2 = true then ((Ajp (Ae7 (Ae7 ([] : List (Int × Int)) (wr (a0.At + x1)) 1) a0.A 1)).bind fun x3 => some x3) else ((Ajp (Ae7 ([] : List (Int × Int)) (wr (a0.At + x1)) 1)).bind fun x4 => some x4)) else ((Aqc a0.Op).bind fun x5 => if x5 = true then ((Ajp (Ae7 ([] : List (Int × Int)) a0.A 1)).bind fun x6 => some x6) else ((Ajp ([] : List (Int × Int))).bind fun x7 => some x7))))
def Amw (a0 : CO) (a1 : Int) : Option Bool :=
 some (a0.At == a1)
def Ac2 (a0 : List CO) (a1 : Int) (s0 : Int) : Option (Int ⊕ (Int ⊕ Unit)) :=
 if decide (s0 < (a0.length : Int)) = true then ((idx a0 s0).bind fun x0 => (Amw x0 a1).bind fun x1 => if x1 = true then (some (.inr (.inl s0))) else (some (.inl (wr (s0 + 1))))) else (some (.inr (.inr (()))))
def Aek (a0 : List CO) (a1 : Int) : Option Int :=
 ((Aa4 (Ac2 a0 a1) 0 : Option (Int ⊕ Unit))).bind fun o0 => (match o0 with | .inl p0 => (some p0) | .inr p1 => (some (-1)))
def Aj9 (a0 : Ads) (a1 : Int) : Option Int :=
 (Aek a0.l a1).bind fun x34 => some x34
def Ail (a0 : Ads) (x0 : (List Int)) (s0 : (List Int) × Int) : Option (((List Int) × Int) ⊕ (((List Int)))) :=
 if decide (s0.2 < (x0.length : Int)) = true then ((idx x0 s0.2).bind fun x1 => (Aj9 (⟨a0.l, a0.Ae3⟩ : Ads) x1).bind fun x2 => (idx s0.1 x2).bind fun x3 => (idx s0.1 x2).bind fun x4 => some (.inl ((s0.1.set x2.toNat (wr (x3 + 1))), wr (s0.2 + 1)))) else (some (.inr s0.1))
def Aii (a0 : Ads) (s0 : (List Int) × Int) : Option (((List Int) × Int) ⊕ (((List Int)))) :=
 if decide (s0.2 < (a0.l.length : Int)) = true then ((idx a0.l s0.2).bind fun x0 => (Aq0 (⟨x0.At, x0.Op, x0.A, x0.B⟩ : CO)).bind fun x1 => (Aa4 (Ail a0 x1) (s0.1, 0)).bind fun o0 => (some (.inl (o0, wr (s0.2 + 1))))) else (some (.inr s0.1))
def Ajt (o0 : ((List Int))) (s0 : (List Int) × Int) : Option (((List Int) × Int) ⊕ (((List Int)))) :=
 if decide (s0.2 < (o0.length : Int)) = true then ((idx o0 s0.2).bind fun x0 => if (x0 == 0) = true then ((app 17592186044416 s0.1 ([s0.2] : List Int)).bind fun x1 => some (.inl (x1, wr (s0.2 + 1)))) else (some (.inl (s0.1, wr (s0.2 + 1))))) else (some (.inr s0.1))
def Aik (a0 : Ads) (x0 : (List Int)) (s0 : (List Int) × (List Int) × Int) : Option (((List Int) × (List Int) × Int) ⊕ (((List Int) × (List Int)))) :=
 if decide (s0.2.2 < (x0.length : Int)) = true then ((idx x0 s0.2.2).bind fun x1 => (Aj9 (⟨a0.l, a0.Ae3⟩ : Ads) x1).bind fun x2 => (idx s0.1 x2).bind fun x3 => (idx s0.1 x2).bind fun x4 => (idx (s0.1.set x2.toNat (wr (x3 - 1))) x2).bind fun x5 => if (x5 == 0) = true then ((app 17592186044416 s0.2.1 ([x2] : List Int)).bind fun x6 => some (.inl ((s0.1.set x2.toNat (wr (x3 - 1))), x6, wr (s0.2.2 + 1)))) else (some (.inl ((s0.1.set x2.toNat (wr (x3 - 1))), s0.2.1, wr (s0.2.2 + 1))))) else (some (.inr (s0.1, s0.2.1)))
def Ag0 (a0 : Ads) (s0 : (List Int) × Int × (List Int)) : Option (((List Int) × Int × (List Int)) ⊕ Int) :=
 if decide ((s0.2.2.length : Int) > 0) = true then ((idx s0.2.2 (wr ((s0.2.2.length : Int) - 1))).bind fun x0 => (Aok s0.2.2 0 (wr ((s0.2.2.length : Int) - 1))).bind fun x1 => (idx a0.l x0).bind fun x2 => (Aq0 x2).bind fun x3 => (Aa4 (Aik a0 x3) (s0.1, x1, 0)).bind fun o0 => (some (.inl (o0.1, wr (s0.2.1 + 1), o0.2)))) else (some (.inr s0.2.1))
def Ank (a0 : Ads) : Option Bool :=
 (mkO 8 (a0.l.length : Int) (0 : Int)).bind fun x15 => (Aa4 (Aii a0) (x15, 0)).bind fun o0 => ((Aa4 (Ajt o0) ([], 0)).bind fun o1 => ((Aa4 (Ag0 a0) (o0, 0, o1)).bind fun o2 => (some (decide (o2 < (a0.l.length : Int))))))
def Avb (a0 : LK) (a1 : Int) : Option (Bool × Int × Int) :=
 (Ap9 (⟨a0.Name, a0.Classes, a0.Funcs, a0.Adm⟩ : LK) a1).bind fun x29 => if (x29.2.2 != 0) = true then (some (false, x29.2.1, x29.2.2)) else ((x29.1).bind fun x80 => ((Ank (⟨x80.l, x80.Ae3⟩ : Ads)).bind fun x88 => some (x88, 0, 0)))
def Ahq (a0 : List CO) (x29 : (List Int) × Int) (s0 : (List Int) × Int) (s1 : (List Int) × Int) : Option (((List Int) × Int) ⊕ (((List Int)))) :=
 if decide (s1.2 < (a0.length : Int)) = true then ((idx a0 s1.2).bind fun x0 => (idx x29.1 s0.2).bind fun x1 => if (x0.At == x1) = true then ((app 17592186044416 s1.1 ([s1.2] : List Int)).bind fun x2 => some (.inl (x2, wr (s1.2 + 1)))) else (some (.inl (s1.1, wr (s1.2 + 1))))) else (some (.inr s1.1))
def Aiz (a0 : List CO) (x29 : (List Int) × Int) (s0 : (List Int) × Int) : Option (((List Int) × Int) ⊕ (((List Int)))) :=
 if decide (s0.2 < (x29.1.length : Int)) = true then ((Aa4 (Ahq a0 x29 s0) (s0.1, 0)).bind fun o0 => (some (.inl (o0, wr (s0.2 + 1))))) else (some (.inr s0.1))
def Ame (a0 : List CO) (a1 : Int) (a2 : Int) : Option ((List Int)) :=
 (idx a0 a1).bind fun x24 => (Al7 x24 a2).bind fun x29 => (Aa4 (Aiz a0 x29) ([], 0)).bind fun o0 => (some o0)
def Ahj (x0 : (List Int)) (s0 : (List Int) × Int) : Option (((List Int) × Int) ⊕ (((List Int)))) :=
 if decide (s0.2 < (x0.length : Int)) = true then ((idx x0 s0.2).bind fun x1 => (idx x0 s0.2).bind fun x2 => (idx s0.1 x2).bind fun x3 => (idx s0.1 x1).bind fun x4 => some (.inl ((s0.1.set x1.toNat (wr (x3 + 1))), wr (s0.2 + 1)))) else (some (.inr s0.1))
def Ahe (x29 : (List CO) × Int × Int × Int) (x76 : Adh) (s0 : (List Int) × Int) : Option (((List Int) × Int) ⊕ (((List Int)))) :=
 if decide (s0.2 < (x29.1.length : Int)) = true then ((Ame x29.1 s0.2 (x76.Code.length : Int)).bind fun x0 => (Aa4 (Ahj x0) (s0.1, 0)).bind fun o0 => (some (.inl (o0, wr (s0.2 + 1))))) else (some (.inr s0.1))
def Air (x29 : (List CO) × Int × Int × Int) (o0 : ((List Int))) (s0 : (List Int) × Int) : Option (((List Int) × Int) ⊕ (((List Int)))) :=
 if decide (s0.2 < (x29.1.length : Int)) = true then ((idx o0 s0.2).bind fun x0 => if (x0 == 0) = true then ((app 17592186044416 s0.1 ([s0.2] : List Int)).bind fun x1 => some (.inl (x1, wr (s0.2 + 1)))) else (some (.inl (s0.1, wr (s0.2 + 1))))) else (some (.inr s0.1))
def Ahd (x0 : (List Int)) (s0 : (List Int) × (List Int) × Int) : Option (((List Int) × (List Int) × Int) ⊕ (((List Int) × (List Int)))) :=
 if decide (s0.2.2 < (x0.length : Int)) = true then ((idx x0 s0.2.2).bind fun x1 => (idx x0 s0.2.2).bind fun x2 => (idx s0.1 x2).bind fun x3 => (idx s0.1 x1).bind fun x4 => (idx x0 s0.2.2).bind fun x5 => (idx (s0.1.set x1.toNat (wr (x3 - 1))) x5).bind fun x6 => if (x6 == 0) = true then ((idx x0 s0.2.2).bind fun x7 => (app 17592186044416 s0.2.1 ([x7] : List Int)).bind fun x8 => some (.inl ((s0.1.set x1.toNat (wr (x3 - 1))), x8, wr (s0.2.2 + 1)))) else (some (.inl ((s0.1.set x1.toNat (wr (x3 - 1))), s0.2.1, wr (s0.2.2 + 1))))) else (some (.inr (s0.1, s0.2.1)))
def Age (x29 : (List CO) × Int × Int × Int) (x76 : Adh) (s0 : (List Int) × (List Int) × Int) : Option (((List Int) × (List Int) × Int) ⊕ (((List Int)))) :=
 if decide (s0.2.2 < (s0.2.1.length : Int)) = true then ((idx s0.2.1 s0.2.2).bind fun x0 => (Ame x29.1 x0 (x76.Code.length : Int)).bind fun x1 => (Aa4 (Ahd x1) (s0.1, s0.2.1, 0)).bind fun o0 => (some (.inl (o0.1, o0.2, wr (s0.2.2 + 1))))) else (some (.inr s0.2.1))
def Ai4 (a0 : LK) (a1 : Int) : Option (Bool × Int × Int) :=
 (Afe (⟨a0.Name, a0.Classes, a0.Funcs, a0.Adm⟩ : LK) a1).bind fun x29 => if (x29.2.2.2 != 0) = true then (some (false, x29.2.2.1, x29.2.2.2)) else ((idx a0.Funcs a1).bind fun x76 => (mkO 8 (x29.1.length : Int) (0 : Int)).bind fun x0 => (Aa4 (Ahe x29 x76) (x0, 0)).bind fun o0 => ((Aa4 (Air x29 o0) ([], 0)).bind fun o1 => ((Aa4 (Age x29 x76) (o0, o1, 0)).bind fun o2 => (some (decide ((o2.length : Int) < (x29.1.length : Int)), 0, 0)))))
def Ahr (a0 : LK) (a1 : Int) : Option Bool :=
 (Alc (⟨a0.Name, a0.Classes, a0.Funcs, a0.Adm⟩ : LK)).bind fun x42 => (Avc (⟨x42.Name, x42.Classes, x42.Funcs, x42.Adm⟩ : LK) a1).bind fun x83 => (Aiw (⟨a0.Name, a0.Classes, a0.Funcs, a0.Adm⟩ : LK) a1).bind fun x0 => (Akr x83.1 x0.1).bind fun x1 => if (!x1) = true then (some false) else (if (x83.2.1 != x0.2.1) = true then (some false) else (if (x83.2.2 != x0.2.2) = true then (some false) else ((Aul (⟨x42.Name, x42.Classes, x42.Funcs, x42.Adm⟩ : LK) a1).bind fun x2 => (An0 (⟨a0.Name, a0.Classes, a0.Funcs, a0.Adm⟩ : LK) a1).bind fun x3 => if (x2.1 != x3.1) = true then (some false) else (if (x2.2.1 != x3.2.1) = true then (some false) else (if (x2.2.2 != x3.2.2) = true then (some false) else ((Avb (⟨x42.Name, x42.Classes, x42.Funcs, x42.Adm⟩ : LK) a1).bind fun x4 => (Ai4 (⟨a0.Name, a0.Classes, a0.Funcs, a0.Adm⟩ : LK) a1).bind fun x5 => if (x4.1 == x5.1) = true then (if (x4.2.1 == x5.2.1) = true then (if (x4.2.2 == x5.2.2) = true then ((Ajg (⟨x42.Name, x42.Classes, x42.Funcs, x42.Adm⟩ : LK) (⟨a0.Name, a0.Classes, a0.Funcs, a0.Adm⟩ : LK)).bind fun x6 => some x6) else (some false)) else (some false)) else (some false)))))))
end
end Go.Proofs.YtfcpkcehecmcpaaGreat
namespace Go.Proofs.YtfcpkcehecmcpaaGreat
open Go Go.RowKit Go.Pv
def A9s (f : Adh) : Prop := f.Sig.Abs.length ≤ big ∧ f.Code.length ≤ big
theorem AFp (l : List UInt8) (h : l.length ≤ big) : Ah8 l = some l := by
 unfold Ah8
 rw [Ae6 (by simp only [big] at h; simp; omega)]; simp
theorem AG5 (l : List UInt8) (h : l.length ≤ big) : Afo l = some l := by
 unfold Afo
 rw [Ae6 (by simp only [big] at h; simp; omega)]; simp
theorem AKs (s : Aa6) (h : s.Abs.length ≤ big) : Anm s = some s := by
 unfold Anm
 rw [AG5 _ h]; rfl
theorem AJf (f : Adh) (h : A9s f) : Amu f = some f := by
 unfold Amu
 rw [show (⟨f.Sig.Abs, f.Sig.Result⟩ : Aa6) = f.Sig from rfl, AKs _ h.1, APv, AFp _ h.2, APv]
theorem eqB (l : List UInt8) (h : l.length ≤ big) : Ah9 l l = some true := by
 simp only [big] at h
 unfold Ah9
 rw [A7 (by simp), Aog l (r := .inr ()) (fun i hi => by
  unfold Agx
  rw [Bu (by simpa using hi), Ac8 hi, APv, APv, A7 (by simp), wr1 (by omega)]) (by unfold Agx; simp)]
 rfl
theorem eqT (l : List UInt8) (h : l.length ≤ big) : Agr l l = some true := by
 simp only [big] at h
 unfold Agr
 rw [A7 (by simp), Aog l (r := .inr ()) (fun i hi => by
  unfold Ae4
  rw [Bu (by simpa using hi), Ac8 hi, APv, APv, A7 (by simp), wr1 (by omega)]) (by unfold Ae4; simp)]
 rfl
theorem AKc (s : Aa6) (h : s.Abs.length ≤ big) : Ako s s = some true := by
 unfold Ako
 rw [Bu (by simp), eqT _ h]; rfl
theorem AIz (f : Adh) (h : A9s f) : Aki f f = some true := by
 unfold Aki
 rw [Bu (by simp), show (⟨f.Sig.Abs, f.Sig.Result⟩ : Aa6) = f.Sig from rfl, AKc _ h.1, APv, Bu (by simp), Bu (by simp), eqB _ h.2]; rfl
theorem A79 (op : UInt8) : Aqj op = Aie op := by
 unfold Aqj Aie
 simp only [Aw6, or_some, APv]
 generalize (op.toNat : Int) = n
 cases h2 : (n == 2) <;> cases h4 : (n == 4) <;> cases h5 : (n == 5) <;> simp only [Bool.false_or, Bool.true_or, Bool.or_true, Bool.false_eq_true, if_false, if_true]
theorem size_eq (op : UInt8) : Alw op = Agg op := by
 unfold Alw Agg
 rw [A79]
def wid (op : UInt8) : Nat × Nat :=
 if op.toNat = 1 then (4, 0) else if op.toNat = 19 ∨ op.toNat = 20 then (2, 0) else if op.toNat = 24 ∨ op.toNat = 25 then (1, 1) else
 if op.toNat = 2 ∨ op.toNat = 4 ∨ op.toNat = 5 ∨ op.toNat = 21 ∨ op.toNat = 23 ∨ op.toNat = 30 ∨ op.toNat = 31 ∨ op.toNat = 32 then (1, 0) else (0, 0)
theorem Adu (a b : Nat) : ((a : Int) == (b : Int)) = decide (a = b) := by
 rw [AQe, JY, decide_eq_true_iff, Int.natCast_inj]
theorem A4x (op : UInt8) : Aie op = some (((wid op).1 : Int), ((wid op).2 : Int)) := by
 unfold Aie wid
 simp only [Aw6, or_some, APv]
 generalize op.toNat = n
 have e1 : ((n : Int) == 1) = decide (n = 1) := Adu n 1
 have e2 : ((n : Int) == 2) = decide (n = 2) := Adu n 2
 have e4 : ((n : Int) == 4) = decide (n = 4) := Adu n 4
 have e5 : ((n : Int) == 5) = decide (n = 5) := Adu n 5
 have e19 : ((n : Int) == 19) = decide (n = 19) := Adu n 19
 have e20 : ((n : Int) == 20) = decide (n = 20) := Adu n 20
 have e21 : ((n : Int) == 21) = decide (n = 21) := Adu n 21
 have e23 : ((n : Int) == 23) = decide (n = 23) := Adu n 23
 have e24 : ((n : Int) == 24) = decide (n = 24) := Adu n 24
 have e25 : ((n : Int) == 25) = decide (n = 25) := Adu n 25
 have e30 : ((n : Int) == 30) = decide (n = 30) := Adu n 30
 have e31 : ((n : Int) == 31) = decide (n = 31) := Adu n 31
 have e32 : ((n : Int) == 32) = decide (n = 32) := Adu n 32
 rw [e1, e2, e4, e5, e19, e20, e21, e23, e24, e25, e30, e31, e32]
 simp only [← Bool.decide_or, AS]
 split
 ·rfl
 ·split
  ·rfl
  ·split
   ·rfl
   ·split <;> rfl
theorem A2n (op : UInt8) : (wid op).1 ≤ 4 ∧ (wid op).2 ≤ 1 := by
 unfold wid
 repeat' split
 all_goals simp
def siz (op : UInt8) : Nat := if 34 ≤ op.toNat then 0 else 1 + (wid op).1 + (wid op).2
theorem Amg (op : UInt8) : Agg op = some (siz op : Int) := by
 have := A2n op
 unfold Agg siz
 rw [A4x]
 by_cases h : 34 ≤ op.toNat
 ·rw [Bu (by simp; omega), Bu h]; rfl
 ·rw [A7 (by simp; omega), A7 h, APv]
  dsimp only
  rw [Aec (n := 1 + ((wid op).1 : Int)) (by omega) (by omega), Aec (by omega) (by omega)]
  congr 1
def num (l : List UInt8) : Nat := l.foldl (fun n b => 256 * n + b.toNat) 0
theorem A5r : ∀ (l : List UInt8), num l < 256 ^ l.length := by
 have key : ∀ (l : List UInt8) (n k : Nat), n < 256 ^ k → l.foldl (fun n b => 256 * n + b.toNat) n < 256 ^ (k + l.length) := by
  intro l
  induction l with
  | nil => intro n k h; simpa using h
  | cons b l ih =>
   intro n k h
   have hb := b.toNat_lt
   have := ih (256 * n + b.toNat) (k + 1) (by rw [Nat.pow_succ]; omega)
   rw [List.foldl_cons, List.length_cons, show k + (l.length + 1) = k + 1 + l.length by omega]
   exact this
 intro l
 have := key l 0 0 (by simp)
 simpa [num] using this
theorem ABb (l : List UInt8) (b : UInt8) : num (l ++ [b]) = 256 * num l + b.toNat := by simp [num]
theorem AKh {n : Nat} (b : UInt8) (h : n < 16777216) : bOr .i64 (A98 .i64 (n : Int) 8) (b.toNat : Int) = ((256 * n + b.toNat : Nat) : Int) := by
 have hb := b.toNat_lt
 have e0 : A98 .i64 (n : Int) 8 = ((256 * n : Nat) : Int) := by
  unfold A98
  rw [show min ((8 : Int)).toNat IntKind.i64.bits = 8 from rfl, IntKind.wrap_i64]
  omega
 rw [e0]
 unfold bOr
 have e1 : IntKind.i64.bits = 64 := rfl
 rw [e1]
 have ea : BitVec.ofInt 64 ((256 * n : Nat) : Int) = BitVec.ofNat 64 (256 * n) := by apply BitVec.eq_of_toNat_eq; simp <;> omega
 have eb : BitVec.ofInt 64 ((b.toNat : Nat) : Int) = BitVec.ofNat 64 b.toNat := by apply BitVec.eq_of_toNat_eq; simp <;> omega
 have e2 : 256 * n ||| b.toNat = 256 * n + b.toNat := by
  have h3 := Nat.two_pow_add_eq_or_of_lt (i := 8) (b := b.toNat) (by omega) n
  rw [show (2 : Nat) ^ 8 = 256 from rfl] at h3
  exact h3.symm
 rw [ea, eb, BitVec.toNat_or, BitVec.toNat_ofNat, BitVec.toNat_ofNat, Nat.mod_eq_of_lt (by omega), Nat.mod_eq_of_lt (by omega), e2, IntKind.wrap_i64]
 omega
def sgn (w : Nat) (n : Nat) : Int := if w = 4 ∧ 2147483647 < n then (n : Int) - 4294967296 else n
theorem A8h (l : List UInt8) (w : Nat) (hw : w ≤ l.length) (h4 : w ≤ 4) (hl : l.length ≤ big) : Ama (w : Int) l = some (sgn w (num (l.take w)), l.drop w) := by
 simp only [big] at hl
 unfold Ama
 rw [Aud (by omega), APv]
 simp only [AQb, Int.toNat_zero, List.drop_zero]
 have hlen : (l.take w).length = w := by simp; omega
 generalize hM : l.take w = M at *
 rw [Akf w (body := Ai0 M) (fun i => ((num (M.take i) : Int), (i : Int))) (r := (num M : Int)) (fun i hi => by
  unfold Ai0
  dsimp only
  have hi' : i < M.length := by omega
  have hn := A5r (M.take i)
  have hp : (M.take i).length ≤ 3 := by simp; omega
  have hp2 : 256 ^ (M.take i).length ≤ 256 ^ 3 := Nat.pow_le_pow_right (by decide) hp
  rw [Bu (by simpa using hi'), Ac8 hi', APv, AKh _ (by omega), wr1 (by omega), List.take_add_one, APy hi', Option.toList_some, ABb]) (by
  unfold Ai0
  dsimp only
  rw [A7 (by simp; omega), ← hlen, AQa]) (s0 := (0, 0)) (by simp [num]), APv, Aud (by omega), APv]
 have e : ((l.take (l.length : Int).toNat).drop (w : Int).toNat) = l.drop w := by simp
 rw [e]
 unfold sgn
 have hn := A5r M
 by_cases hw4 : w = 4
 ·subst hw4
  rw [Bu (by simp)]
  rw [hlen] at hn
  congr 2
  have e32 : IntKind.i32.wrap (num M : Int) = if 2147483647 < num M then (num M : Int) - 4294967296 else num M := by
   rw [IntKind.wrap_i32]
   split <;> omega
  rw [e32]
  split
  ·rw [Bu (by omega), Aec] <;> omega
  ·rw [A7 (by omega), Aec] <;> omega
 ·rw [A7 (by simp; omega), A7 (by omega)]
theorem AAo (l : List UInt8) (w : Nat) (hw : w ≤ l.length) (h4 : w ≤ 4) (hl : l.length ≤ big) : Ak1 l (w : Int) = some (sgn w (num (l.take w))) := by
 simp only [big] at hl
 unfold Ak1
 have hlen : (l.take w).length = w := by simp; omega
 rw [Akf w (body := Ahx l (w : Int)) (fun i => ((num (l.take i) : Int), (i : Int))) (r := (num (l.take w) : Int)) (fun i hi => by
  unfold Ahx
  dsimp only
  have hi' : i < l.length := by omega
  have hn := A5r (l.take i)
  have hp : (l.take i).length ≤ 3 := by simp; omega
  have hp2 : 256 ^ (l.take i).length ≤ 256 ^ 3 := Nat.pow_le_pow_right (by decide) hp
  have hb := l[i].toNat_lt
  rw [Bu (by simpa using hi), Ac8 hi', APv, wr1 (by omega), List.take_add_one, APy hi', Option.toList_some, ABb, Aec (n := 256 * (num (l.take i) : Int)) (by omega) (by omega), Aec (by omega) (by omega)]
  congr 4) (by
  unfold Ahx
  dsimp only
  rw [A7 (by simp)]) (s0 := (0, 0)) (by simp [num]), APv]
 unfold sgn
 have hn := A5r (l.take w)
 rw [hlen] at hn
 by_cases hw4 : w = 4
 ·subst hw4
  rw [Bu (by simp)]
  by_cases h : 2147483647 < num (l.take 4)
  ·rw [Bu (by simp; omega), Bu ⟨rfl, h⟩, Aec] <;> omega
  ·rw [A7 (by simp; omega), A7 (by omega)]
 ·rw [A7 (by simp; omega), A7 (by omega)]
def dec (b : List UInt8) (at_ : Nat) (op : UInt8) : CO × Int :=
 if siz op = 0 then (⟨0, 0, 0, 0⟩, 40) else if b.length < at_ + siz op then (⟨0, 0, 0, 0⟩, 2) else
  let A := sgn (wid op).1 (num ((b.drop (at_ + 1)).take (wid op).1))
  let B := sgn (wid op).2 (num ((b.drop (at_ + 1 + (wid op).1)).take (wid op).2))
  if op.toNat = 2 ∧ 1 < A then (⟨0, 0, 0, 0⟩, 5) else (⟨at_, op, A, B⟩, 0)
theorem AKm (b : List UInt8) (hl : b.length ≤ big) (i : Nat) (hi : i < b.length) : Ag2 b (i : Int) = some (dec b i b[i]) := by
 simp only [big] at hl
 have hw := A2n b[i]
 unfold Ag2 dec
 rw [A7 (by simp), A7 (by simp; omega), A7 (by simp; omega), Ac8 hi, APv, Amg, APv]
 generalize b[i] = op at hw
 by_cases h0 : siz op = 0
 ·rw [Bu (by simp [h0]), Bu h0]
 ·have hs : siz op = 1 + (wid op).1 + (wid op).2 := by
   unfold siz at h0 ⊢
   split
   ·rename_i h; rw [Bu h] at h0; exact absurd rfl h0
   ·rfl
  rw [A7 (by simp; omega), A7 h0, Aec (by omega) (by omega)]
  by_cases h1 : b.length < i + siz op
  ·rw [Bu (by simp; omega), Bu h1]
  ·rw [A7 (by simp; omega), A7 h1, A4x, APv]
   dsimp only
   rw [wr1 (by omega), Aud (by omega), APv]
   have e1 : ((b.take (b.length : Int).toNat).drop ((i + 1 : Nat) : Int).toNat) = b.drop (i + 1) := by simp
   rw [e1, AAo _ _ (by simp; omega) (by omega) (by simp only [big, List.length_drop]; omega), APv, Aec (n := ((i + 1 : Nat) : Int) + ((wid op).1 : Int)) (by omega) (by omega), show ((i + 1 : Nat) : Int) + ((wid op).1 : Int) = ((i + 1 + (wid op).1 : Nat) : Int) by omega, Aud (by omega), APv]
   have e2 : ((b.take (b.length : Int).toNat).drop ((i + 1 + (wid op).1 : Nat) : Int).toNat) = b.drop (i + 1 + (wid op).1) := by rw [AQb, AQb, AQa]
   rw [e2, AAo _ _ (by simp; omega) (by omega) (by simp only [big, List.length_drop]; omega), APv]
   by_cases h2 : op.toNat = 2
   ·rw [Bu (by simp [h2])]
    by_cases h3 : 1 < sgn (wid op).1 (num ((b.drop (i + 1)).take (wid op).1))
    ·rw [Bu (by simp; omega), Bu ⟨h2, h3⟩]
    ·rw [A7 (by simp; omega), A7 (by omega)]
   ·rw [A7 (by simp; omega), A7 (by omega)]
theorem AJl (b : List UInt8) (hl : b.length ≤ big) (i : Nat) (hi : i < b.length) : Am4 b (i : Int) = some (dec b i b[i]) := by
 simp only [big] at hl
 have hw := A2n b[i]
 unfold Am4 dec
 rw [A7 (by simp), A7 (by simp; omega), A7 (by simp; omega), Ac8 hi, APv, size_eq, Amg, APv]
 generalize b[i] = op at hw
 by_cases h0 : siz op = 0
 ·rw [Bu (by simp [h0]), Bu h0]
 ·have hs : siz op = 1 + (wid op).1 + (wid op).2 := by
   unfold siz at h0 ⊢
   split
   ·rename_i h; rw [Bu h] at h0; exact absurd rfl h0
   ·rfl
  rw [A7 (by simp; omega), A7 h0, APv, size_eq, Amg, APv, Aec (by omega) (by omega)]
  by_cases h1 : b.length < i + siz op
  ·rw [Bu (by simp; omega), Bu h1]
  ·rw [A7 (by simp; omega), A7 h1, APv, wr1 (by omega), Aud (by omega), APv]
   have e1 : ((b.take (b.length : Int).toNat).drop ((i + 1 : Nat) : Int).toNat) = b.drop (i + 1) := by simp
   rw [e1, A79, A4x, APv]
   dsimp only
   rw [A8h _ _ (by simp; omega) (by omega) (by simp only [big, List.length_drop]; omega), APv]
   dsimp only
   rw [List.drop_drop, show i + 1 + (wid op).1 = i + 1 + (wid op).1 from rfl, A8h _ _ (by simp; omega) (by omega) (by simp only [big, List.length_drop]; omega), APv]
   dsimp only
   by_cases h2 : op.toNat = 2
   ·rw [Bu (by simp [h2])]
    by_cases h3 : 1 < sgn (wid op).1 (num ((b.drop (i + 1)).take (wid op).1))
    ·rw [Bu (by simp; omega), Bu ⟨h2, h3⟩]
    ·rw [A7 (by simp; omega), A7 (by omega)]
   ·rw [A7 (by simp; omega), A7 (by omega)]
end Go.Proofs.YtfcpkcehecmcpaaGreat
namespace Go.Proofs.YtfcpkcehecmcpaaGreat
open Go Go.RowKit Go.Pv
theorem Ak7 {R : Type} (n : Nat) {body : Int → Option (Int ⊕ R)} (P : Nat → Option R) {r0 : R} (hs : ∀ i, i < n → body (i : Int) = match P i with | some r => some (.inr r) | none => some (.inl ((i + 1 : Nat) : Int))) (he : body (n : Int) = some (.inr r0)) :
  Aa4 body 0 = some (((List.range n).findSome? P).getD r0) := by
 have key : ∀ k i, i + k = n → Aa4 body (i : Int) = some (((List.range' i k).findSome? P).getD r0) := by
  intro k
  induction k with
  | zero => intro i hi; have : i = n := by omega
            subst this; rw [Ada he]; rfl
  | succ k ih =>
   intro i hi
   have h1 := hs i (by omega)
   rw [List.range'_succ, List.findSome?_cons]
   rcases hp : P i with _ | r
   ·rw [hp] at h1; rw [Afd h1]; exact ih (i + 1) (by omega)
   ·rw [hp] at h1; rw [Ada h1]; rfl
 have := key n 0 (by omega)
 rw [List.range_eq_range']
 exact this
theorem A3a {n : Nat} (h : n < 256) : (Aiq (n : Int)).toNat = n := by have := Awh n; omega
theorem Awj (t : UInt8) (h : 16 ≤ t.toNat) : (Aiq ((t.toNat : Int) - 16)).toNat = t.toNat - 16 := by
 have := Awh ((t.toNat : Int) - 16); have := t.toNat_lt; omega
def cls (l : List BV) (t : UInt8) : Int := if 16 ≤ t.toNat ∧ t.toNat - 16 < l.length then ((t.toNat - 16 : Nat) : Int) else -1
def tv (l : List BV) (t : UInt8) : Bool := decide (t.toNat ≤ 5) || (decide (16 ≤ t.toNat) && decide (t.toNat - 16 < l.length))
def st (l : List BV) (t : UInt8) : Bool := tv l t && (t.toNat != 0 && t.toNat != 3)
theorem Atc (l : List BV) (t : UInt8) : Akn l t = some (cls l t) := by
 unfold Akn cls
 by_cases h : 16 ≤ t.toNat
 ·rw [A7 (by simp; omega), Awj t h]
  by_cases h2 : t.toNat - 16 < l.length
  ·rw [A7 (by simp; omega), Bu ⟨h, h2⟩]
  ·rw [Bu (by simp; omega), A7 (by omega)]
 ·rw [Bu (by simp; omega), A7 (by omega)]
theorem A6i (l : List BV) (t : UInt8) : decide (cls l t ≥ 0) = (decide (16 ≤ t.toNat) && decide (t.toNat - 16 < l.length)) := by
 unfold cls
 by_cases h : 16 ≤ t.toNat ∧ t.toNat - 16 < l.length
 ·rw [Bu h]; simp [h.1, h.2]
 ·rw [A7 h]
  simp only [ge_iff_le, show ¬ ((0 : Int) ≤ -1) by omega, decide_false]
  rcases Nat.lt_or_ge t.toNat 16 with h1 | h1
  ·simp; omega
  ·have : ¬ (t.toNat - 16 < l.length) := fun h2 => h ⟨h1, h2⟩
   simp [this]
theorem Apw (l : List BV) (t : UInt8) : Ai9 l t = some (tv l t) := by
 unfold Ai9 tv
 rw [Atc, APv, A6i]
 by_cases h : t.toNat ≤ 5
 ·rw [Bu (by simp; omega)]; simp [h]
 ·rw [A7 (by simp; omega)]; simp [h]
theorem Arn (l : List BV) (t : UInt8) : Aff l t = some (tv l t) := by
 unfold Aff tv
 by_cases h : t.toNat ≤ 5
 ·rw [Bu (by simp; omega)]; simp [h]
 ·rw [A7 (by simp; omega)]
  by_cases h2 : 16 ≤ t.toNat
  ·rw [Bu (by simp; omega), Awj t h2]
   simp only [h, h2, decide_false, decide_true, Bool.false_or, Bool.true_and, Option.some.injEq, Int.ofNat_lt]
  ·rw [A7 (by simp; omega)]; simp [h, h2]
theorem AJ6 (t : UInt8) (k : Nat) : ((t.toNat : Int) != (k : Int)) = (t.toNat != k) := by
 rw [AQe, Aas, Aas]; omega
theorem Ayv (l : List BV) (t : UInt8) : (if tv l t = true then (if ((t.toNat : Int) != 0) = true then some ((t.toNat : Int) != 3) else some false) else some false) = some (st l t) := by
 unfold st
 rw [show ((t.toNat : Int) != 0) = (t.toNat != 0) from AJ6 t 0, show ((t.toNat : Int) != 3) = (t.toNat != 3) from AJ6 t 3]
 cases tv l t <;> cases (t.toNat != 0) <;> rfl
theorem ACf (l : List BV) (t : UInt8) : Ari l t = some (st l t) := by
 unfold Ari
 rw [Apw, APv, Ayv]
theorem Ayf (l : List BV) (t : UInt8) : Aig l t = some (st l t) := by
 unfold Aig
 rw [Arn, APv, Ayv]
theorem A35 (l : List BV) (t : UInt8) : Alf l t = some (st l t) := by
 unfold Alf
 rw [Arn, APv, Ayv]
theorem Ava (l : List BV) (t : UInt8) : Ajv l t = some (st l t) := by
 unfold Ajv
 rw [Arn, APv, Ayv]
theorem A0s (e : GG) (t : UInt8) : Aja t e = some (st e.Classes t) := by
 unfold Aja
 rw [Apw, APv, Ayv]
theorem AC4 (e : GG) (t : UInt8) : An7 t e = some (!st e.Classes t) := by
 unfold An7
 rw [ACf, APv]
theorem ACh (l : List BV) (t : UInt8) : Arr l t = some (st l t) := by
 unfold Arr
 rw [Atc, APv, A6i]
 have e1 : ((t.toNat : Int) == 1) = decide (t.toNat = 1) := Adu _ 1
 have e2 : ((t.toNat : Int) == 2) = decide (t.toNat = 2) := Adu _ 2
 have e4 : ((t.toNat : Int) == 4) = decide (t.toNat = 4) := Adu _ 4
 have e5 : ((t.toNat : Int) == 5) = decide (t.toNat = 5) := Adu _ 5
 rw [e1, e2, e4, e5]
 unfold st tv
 simp only [AS]
 have hb : ∀ k, (t.toNat != k) = !decide (t.toNat = k) := fun k => by rw [AQe]; simp
 rw [hb, hb]
 split
 ·rename_i h; simp [h]
 ·split
  ·rename_i h; simp [h]
  ·split
   ·rename_i h; simp [h]
   ·split
    ·rename_i h; simp [h]
    ·rename_i h1 h2 h3 h4
     congr 1
     by_cases h0 : t.toNat = 0
     ·simp [h0]
     ·by_cases h5 : t.toNat = 3
      ·simp [h5]
      ·have : ¬ (t.toNat ≤ 5) := by omega
       simp [h0, h5, this]
def rf (t : UInt8) : Bool := decide (t.toNat = 3) || (decide (t.toNat = 4) || (decide (t.toNat = 5) || decide (16 ≤ t.toNat)))
theorem AJ7 (t : UInt8) : (if ((t.toNat : Int) == 3) = true then some true else if ((t.toNat : Int) == 4) = true then some true else if ((t.toNat : Int) == 5) = true then some true else some (decide ((t.toNat : Int) ≥ 16))) = some (rf t) := by
 have e3 : ((t.toNat : Int) == 3) = decide (t.toNat = 3) := Adu _ 3
 have e4 : ((t.toNat : Int) == 4) = decide (t.toNat = 4) := Adu _ 4
 have e5 : ((t.toNat : Int) == 5) = decide (t.toNat = 5) := Adu _ 5
 rw [e3, e4, e5, Aw6, Aw6, Aw6]
 unfold rf
 congr 4
 rw [AQe]; simp; omega
theorem Avv (t : UInt8) : Ajz t = some (rf t) := by unfold Ajz; exact AJ7 t
theorem A1d (t : UInt8) : Ahn t = some (rf t) := by unfold Ahn; exact AJ7 t
def letter (x : UInt8) : Bool := (decide (97 ≤ x.toNat) && decide (x.toNat ≤ 122)) || (decide (65 ≤ x.toNat) && decide (x.toNat ≤ 90))
def inner (x : UInt8) : Bool := (decide (48 ≤ x.toNat) && decide (x.toNat ≤ 57)) || decide (x.toNat = 95)
def A26 (l : List UInt8) (i : Nat) : Option Bool := match l[i]? with
 | some x => if letter x = true then none else if (decide (0 < i) && inner x) = true then none else some false
 | none => none
def Au8 (l : List UInt8) : Bool := decide (1 ≤ l.length) && decide (l.length ≤ 24) && ((List.range l.length).findSome? (A26 l)).isNone
theorem A7x (x : UInt8) : (if decide ((x.toNat : Int) ≥ 97) = true then (if decide ((x.toNat : Int) ≤ 122) = true then (some true) else (if decide ((x.toNat : Int) ≥ 65) = true then (some (decide ((x.toNat : Int) ≤ 90))) else (some false))) else (if decide ((x.toNat : Int) ≥ 65) = true then (some (decide ((x.toNat : Int) ≤ 90))) else (some false))) = some (letter x) := by
 unfold letter
 by_cases h1 : 97 ≤ x.toNat
 ·rw [Bu (by simp; omega)]
  by_cases h2 : x.toNat ≤ 122
  ·rw [Bu (by simp; omega)]; simp [h1, h2]
  ·rw [A7 (by simp; omega), Bu (by simp; omega)]
   have : ¬ (x.toNat ≤ 90) := by omega
   simp [h1, h2, this]; omega
 ·rw [A7 (by simp; omega)]
  by_cases h2 : 65 ≤ x.toNat
  ·rw [Bu (by simp; omega)]; simp [h1, h2]; omega
  ·rw [A7 (by simp; omega)]; simp [h1, h2]
theorem AB0 {l : List UInt8} (i : Nat) (b : Bool) (h : A26 l i = some b) : b = false := by
 unfold A26 at h
 split at h
 ·split at h
  ·cases h
  ·split at h
   ·cases h
   ·cases h; rfl
 ·cases h
theorem Aop {R S : Type} (n : Nat) (P : Nat → Option R) (f : R → S) : (List.range n).findSome? (fun i => (P i).map f) = ((List.range n).findSome? P).map f := by
 induction (List.range n) with
 | nil => rfl
 | cons x l ih => simp only [List.findSome?_cons]; rcases P x with _ | r <;> simp [ih]
theorem AG3 (x : UInt8) : inner x = true ↔ (48 ≤ (x.toNat : Int) ∧ (x.toNat : Int) ≤ 57) ∨ (x.toNat : Int) = 95 := by
 unfold inner
 simp only [AQf, AQd, AS]
 omega
theorem A0g (l : List UInt8) : Aou l = some (Au8 l) := by
 unfold Aou Au8
 by_cases h0 : l.length = 0
 ·rw [Bu (by simp [h0])]; simp [h0]
 ·have h0' : ¬ (((l.length : Int) == 0) = true) := by rw [JY]; omega
  rw [A7 h0']
  by_cases h1 : l.length ≤ 24
  ·rw [A7 (by rw [AS]; omega)]
   have hl := Ak7 (R := Bool ⊕ Unit) l.length (body := Ajd l) (fun i => (A26 l i).map .inl) (r0 := .inr ()) (fun i hi => by
    unfold Ajd
    rw [Bu (by rw [AS]; omega), Ac8 hi, APv, A7x, APv, wr1 (by omega)]
    have hx : l[i]? = some l[i] := APy hi
    unfold A26
    rw [hx]
    dsimp only
    generalize l[i] = x
    have hin := AG3 x
    rcases hl : letter x with _ | _
    ·simp only [Bool.false_eq_true, if_false]
     by_cases hc : (decide (0 < i) && inner x) = true
     ·rw [Bu hc]
      rw [AQd, AS] at hc
      have h1 := hin.1 hc.2
      simp only [AS, JY, Option.map_none]
      repeat' split
      all_goals first | rfl | (exfalso; omega)
     ·rw [A7 hc]
      rw [AQd, AS] at hc
      have h1 : ¬ (0 < i ∧ ((48 ≤ (x.toNat : Int) ∧ (x.toNat : Int) ≤ 57) ∨ (x.toNat : Int) = 95)) := fun h => hc ⟨h.1, hin.2 h.2⟩
      simp only [AS, JY, APw]
      repeat' split
      all_goals first | rfl | (exfalso; omega)
    ·rfl) (by
    unfold Ajd
    rw [A7 (by rw [AS]; omega)])
   rw [hl, APv, Aop]
   have a1 : 1 ≤ l.length := by omega
   rcases hf : (List.range l.length).findSome? (A26 l) with _ | b
   ·simp [a1, h1]
   ·obtain ⟨i, _, hi⟩ := List.exists_of_findSome?_eq_some hf
    rw [AB0 i b hi]; simp
  ·rw [Bu (by rw [AS]; omega)]; simp [h1]
theorem A6p (l : List UInt8) : Ajr l = some (Au8 l) := by
 rw [← A0g]
 unfold Ajr Aou
 by_cases h0 : l.length = 0
 ·rw [Bu (by rw [AS]; omega), Bu (by rw [JY]; omega)]
 ·rw [A7 (c := decide ((l.length : Int) < 1) = true) (by rw [AS]; omega), A7 (c := ((l.length : Int) == 0) = true) (by rw [JY]; omega)]
  have e : Aib l = Ajd l := by
   funext s
   unfold Aib Ajd
   by_cases hs : s < (l.length : Int)
   ·rw [Bu (by simpa using hs), Bu (by simpa using hs)]
    rcases hx : idx l s with _ | x
    ·rfl
    ·simp only [APv, A7x]
     have hs0 := (Ark hx).1
     rcases letter x with _ | _
     ·simp only [Bool.false_eq_true, if_false, Bool.not_false, if_true, AS, JY, Aas]
      repeat' split
      all_goals first | rfl | (exfalso; omega)
     ·rfl
   ·rw [A7 (by simpa using hs), A7 (by simpa using hs)]
  rw [e]
end Go.Proofs.YtfcpkcehecmcpaaGreat
namespace Go.Proofs.YtfcpkcehecmcpaaGreat
open Go Go.RowKit Go.Pv
def Aqp {α : Type} (l : List α) (p : α → Bool) (i : Nat) : Option Int := match l[i]? with
 | some x => if p x = true then some (i : Int) else none
 | none => none
theorem Atb {α : Type} {l : List α} {p : α → Bool} {i : Nat} (h : i < l.length) : Aqp l p i = if p l[i] = true then some (i : Int) else none := by
 unfold Aqp
 rw [APy h]
theorem Axk {α : Type} (l : List α) (p : α → Bool) : (List.range l.length).findSome? (Aqp l p) = none ↔ l.any p = false := by
 rw [AP9, List.any_eq_false]
 constructor
 ·intro h x hx
  obtain ⟨i, hi, rfl⟩ := List.mem_iff_getElem.1 hx
  have := h i (List.mem_range.2 hi)
  rw [Atb hi] at this
  intro hp
  rw [Bu hp] at this
  cases this
 ·intro h i hi
  rw [Atb (List.mem_range.1 hi), A7 (h _ (AP5 _))]
theorem Awl {α : Type} (l : List α) (p : α → Bool) {body : Int → Option (Int ⊕ (Int ⊕ Unit))} (hs : ∀ i (h : i < l.length), body (i : Int) = if p l[i] = true then some (.inr (.inl (i : Int))) else some (.inl ((i + 1 : Nat) : Int))) (he : body (l.length : Int) = some (.inr (.inr ()))) :
  ∃ r, ((Aa4 body 0).bind fun o => match o with | .inl p => some p | .inr _ => some (-1)) = some r ∧ decide (r ≥ 0) = l.any p ∧ (0 ≤ r → ∃ i : Nat, r = i ∧ i < l.length ∧ ∀ h : i < l.length, p l[i] = true) := by
 have hl := Ak7 l.length (body := body) (fun i => (Aqp l p i).map .inl) (r0 := .inr ()) (fun i hi => by
  rw [hs i hi, Atb hi]
  split <;> rfl) he
 rw [hl, APv, Aop]
 have hn := Axk l p
 rcases hf : (List.range l.length).findSome? (Aqp l p) with _ | r
 ·rw [hn.1 hf]; exact ⟨-1, rfl, rfl, fun h => by omega⟩
 ·refine ⟨r, rfl, ?_⟩
  obtain ⟨i, hi, hr⟩ := List.exists_of_findSome?_eq_some hf
  have hi' := List.mem_range.1 hi
  rw [Atb hi'] at hr
  split at hr
  ·rename_i hp
   cases hr
   have ha : l.any p = true := by rw [List.any_eq_true]; exact ⟨_, AP5 hi', hp⟩
   rw [ha, AS]
   exact ⟨by omega, fun _ => ⟨i, rfl, hi', fun _ => hp⟩⟩
  ·cases hr
theorem AA7 {α : Type} (l : List α) (p : α → Bool) {body : Int → Option (Int ⊕ (Bool ⊕ Unit))} (hs : ∀ i (h : i < l.length), body (i : Int) = if p l[i] = true then some (.inr (.inl true)) else some (.inl ((i + 1 : Nat) : Int))) (he : body (l.length : Int) = some (.inr (.inr ()))) :
  ((Aa4 body 0).bind fun o => match o with | .inl p => some p | .inr _ => some false) = some (l.any p) := by
 have hl := Ak7 l.length (body := body) (fun i => (Aqp l p i).map fun _ => .inl true) (r0 := .inr ()) (fun i hi => by
  rw [hs i hi, Atb hi]
  split <;> rfl) he
 rw [hl, APv, Aop]
 have hn := Axk l p
 rcases hf : (List.range l.length).findSome? (Aqp l p) with _ | r
 ·rw [hn.1 hf]; rfl
 ·rcases hb : l.any p with _ | _
  ·rw [hn.2 hb] at hf; cases hf
  ·rfl
theorem ABf (l : List (List UInt8)) (hl : l.length ≤ big) (x : List UInt8) : Aei l x = some (l.any fun y => x == y) := by
 unfold Aei
 have hb : l.length ≤ 1048576 := hl
 obtain ⟨r, h1, h2, _⟩ := Awl l (fun y => x == y) (body := Ady l x) (fun i hi => by
  unfold Ady
  rw [Bu (by rw [AS]; omega), Ac8 hi, APv, wr1 (by omega)]) (by
  unfold Ady
  rw [A7 (by rw [AS]; omega)])
 have h1' : Ah6 l x = some r := h1
 rw [h1', APv, h2]
def wordsL : List (List UInt8) := [[116, 111, 112], [105, 110, 116], [98, 111, 111, 108], [110, 117, 108, 108], [105, 110, 116, 115], [97, 110, 121]]
theorem AEt : Ave = some wordsL := rfl
theorem AIf (k : Nat) (h : k < 6) : Aoy (UInt8.ofNat k) = some wordsL[k] := by
 match k, h with
 | 0, _ => rfl
 | 1, _ => rfl
 | 2, _ => rfl
 | 3, _ => rfl
 | 4, _ => rfl
 | 5, _ => rfl
theorem AEm (x : List UInt8) : Alh x = some (wordsL.any fun y => x == y) := by
 unfold Alh
 have step : ∀ k (h : k < 6), Afy x (UInt8.ofNat k) = if (wordsL[k] == x) = true then some (.inr (.inl true)) else some (.inl (UInt8.ofNat (k + 1))) := by
  intro k h
  unfold Afy
  have hk : (UInt8.ofNat k).toNat = k := by rw [UInt8.toNat_ofNat']; omega
  rw [Bu (by rw [hk, AS]; omega), AIf k h, APv, hk]
  congr 3
  apply UInt8.toNat_inj.1
  have := Awh ((k : Int) + 1)
  rw [UInt8.toNat_ofNat']
  omega
 have key : ∀ n k, k + n = 6 → Aa4 (Afy x) (UInt8.ofNat k) = some (if (wordsL.drop k).any (fun y => x == y) = true then (.inl true) else .inr ()) := by
  intro n
  induction n with
  | zero =>
   intro k hk
   have : k = 6 := by omega
   subst this
   rw [Ada (r := .inr ())]
   ·rfl
   ·unfold Afy; rfl
  | succ n ih =>
   intro k hk
   have h6 : k < 6 := by omega
   have hd : wordsL.drop k = wordsL[k] :: wordsL.drop (k + 1) := List.drop_eq_getElem_cons (by exact h6)
   have hs := step k h6
   rw [hd, List.any_cons]
   have hc : (x == wordsL[k]) = (wordsL[k] == x) := by rw [AQe, JY, JY]; exact eq_comm
   rw [hc]
   by_cases he : (wordsL[k] == x) = true
   ·rw [Bu he] at hs
    rw [Ada hs, he]; rfl
   ·rw [A7 he] at hs
    rw [Afd hs, ih (k + 1) (by omega)]
    have : (wordsL[k] == x) = false := by simpa using he
    rw [this, Bool.false_or]
 have := key 6 0 rfl
 rw [show (0 : UInt8) = UInt8.ofNat 0 from rfl, this, APv]
 rw [List.drop_zero]
 cases (wordsL.any fun y => x == y) <;> rfl
end Go.Proofs.YtfcpkcehecmcpaaGreat
namespace Go.Proofs.YtfcpkcehecmcpaaGreat
open Go Go.RowKit Go.Pv
def Aia (l : List BV) (n : Nat) : Prop := ∀ i (h : i < l.length), i < n → -1 ≤ l[i].Ace ∧ l[i].Ace < i
def lin (l : List BV) : Nat → Int → List Nat
 | 0, _ => []
 | f + 1, c => if h : 0 ≤ c ∧ c < l.length then c.toNat :: lin l f (l[c.toNat]'(by omega)).Ace else []
def Agi (l : List BV) (c : Int) : List Nat := lin l (c.toNat + 1) c
theorem Ay0 {l : List BV} {f : Nat} {c : Int} (h : c < 0) : lin l f c = [] := by
 cases f with
 | zero => rfl
 | succ f => unfold lin; rw [dif_neg (by omega)]
theorem AFz {l : List BV} {n : Nat} (R : Aia l n) : ∀ (f f' : Nat) (c : Int), c < n → c < f → c < f' → lin l f c = lin l f' c
 | 0, f', c, _, h1, _ => by rw [Ay0 (by omega), Ay0 (by omega)]
 | f + 1, 0, c, _, _, h2 => by rw [Ay0 (by omega), Ay0 (by omega)]
 | f + 1, f' + 1, c, hn, h1, h2 => by
  unfold lin
  by_cases h : 0 ≤ c ∧ c < l.length
  ·rw [dif_pos h, dif_pos h]
   congr 1
   have hr := R c.toNat (by omega) (by omega)
   exact AFz R f f' _ (by omega) (by omega) (by omega)
  ·rw [dif_neg h, dif_neg h]
theorem Amn {l : List BV} {c : Int} (h : c < 0) : Agi l c = [] := Ay0 h
theorem Apz {l : List BV} {n : Nat} (R : Aia l n) (c : Nat) (h : c < l.length) (hn : c < n) : Agi l (c : Int) = c :: Agi l l[c].Ace := by
 have hr := R c h hn
 unfold Agi
 rw [lin, dif_pos ⟨by omega, by omega⟩]
 simp only [AQb]
 congr 1
 exact AFz R _ _ _ (by omega) (by omega) (by omega)
theorem Ath {l : List BV} {n : Nat} (R : Aia l n) : ∀ (k : Nat) (c : Int), c < k → c < n → c < l.length → ∀ x ∈ Agi l c, (x : Int) ≤ c ∧ x < l.length
 | 0, c, hk, hn, hl, x, hx => by rw [Amn (by omega)] at hx; cases hx
 | k + 1, c, hk, hn, hl, x, hx => by
  by_cases h0 : 0 ≤ c
  ·obtain ⟨c, rfl⟩ := AQc h0
   rw [Apz R c (by omega) (by omega)] at hx
   have hr := R c (by omega) (by omega)
   rcases List.mem_cons.1 hx with rfl | hx
   ·omega
   ·have := Ath R k l[c].Ace (by omega) (by omega) (by omega) x hx
    omega
  ·rw [Amn (by omega)] at hx; cases hx
theorem Axe {l : List BV} {n : Nat} (R : Aia l n) : ∀ (k : Nat) (c : Int), c < k → c < n → c < l.length → (Agi l c).length ≤ (c + 1).toNat
 | 0, c, hk, hn, hl => by rw [Amn (by omega)]; simp
 | k + 1, c, hk, hn, hl => by
  by_cases h0 : 0 ≤ c
  ·obtain ⟨c, rfl⟩ := AQc h0
   rw [Apz R c (by omega) (by omega)]
   have hr := R c (by omega) (by omega)
   have := Axe R k l[c].Ace (by omega) (by omega) (by omega)
   rw [List.length_cons]
   omega
  ·rw [Amn (by omega)]; simp
def Aye {σ : Type} (g : σ → Nat → σ) (go : σ → Nat → Bool) : List Nat → σ → σ
 | [], s => s
 | c :: r, s => if go s c = true then Aye g go r (g s c) else g s c
theorem Avo {σ : Type} {l : List BV} {n : Nat} (R : Aia l n) {body : σ × Int → Option ((σ × Int) ⊕ (σ ⊕ σ))} (g : σ → Nat → σ) (go : σ → Nat → Bool) (I : σ → Int → Prop)
  (hb : ∀ s (c : Nat) (h : c < l.length), c < n → I s c → body (s, (c : Int)) = if go s c = true then some (.inl (g s c, l[c].Ace)) else some (.inr (.inr (g s c))))
  (hI : ∀ s (c : Nat) (h : c < l.length), c < n → I s c → I (g s c) l[c].Ace)
  (he : ∀ s (c : Int), c < 0 → body (s, c) = some (.inr (.inr s))) :
  ∀ (k : Nat) (c : Int) s, c < k → c < n → c < l.length → I s c → Aa4 body (s, c) = some (.inr (Aye g go (Agi l c) s))
 | 0, c, s, hk, hn, hl, hs => by rw [Ada (he s c (by omega)), Amn (by omega)]; rfl
 | k + 1, c, s, hk, hn, hl, hs => by
  by_cases h0 : 0 ≤ c
  ·obtain ⟨c, rfl⟩ := AQc h0
   have hr := R c (by omega) (by omega)
   have h1 := hb s c (by omega) (by omega) hs
   have h2 := hI s c (by omega) (by omega) hs
   rw [Apz R c (by omega) (by omega), Aye]
   by_cases hg : go s c = true
   ·rw [Bu hg] at h1
    rw [Afd h1, Bu hg]
    exact Avo R g go I hb hI he k _ _ (by omega) (by omega) (by omega) h2
   ·rw [A7 hg] at h1
    rw [Ada h1, A7 hg]
  ·rw [Ada (he s c (by omega)), Amn (by omega)]; rfl
theorem AOi {α β : Type} (f : α → β) (L : List α) : L.flatMap (fun c => [f c]) = L.map f := by induction L <;> simp_all
theorem A01 {α : Type} (f : Nat → List α) : ∀ (L : List Nat) (s : List α), Aye (fun s c => s ++ f c) (fun _ _ => true) L s = s ++ L.flatMap f
 | [], s => by simp [Aye]
 | c :: r, s => by rw [Aye, Bu rfl, A01 f r, List.flatMap_cons, AP7]
def Alb (l : List BV) : Prop := l.length ≤ big ∧ ∀ x ∈ l, x.Fields.length ≤ big
def Asj (l : List BV) (c : Nat) : List Acg := match l[c]? with
 | some x => x.Fields
 | none => []
theorem Ay1 {l : List BV} {c : Nat} (h : c < l.length) : Asj l c = l[c].Fields := by unfold Asj; rw [APy h]
theorem A4m {l : List BV} (h : Alb l) (c : Nat) : (Asj l c).length ≤ 1048576 := by
 unfold Asj
 split
 ·rename_i x hx; exact h.2 x (List.mem_of_getElem? hx)
 ·simp
theorem AEh (l : List BV) (h : Alb l) (c : Nat) (hc : c < l.length) (s : List (List UInt8)) (hs : s.length ≤ 1099511627776) :
  Anw (c : Int) l s = some (true, s ++ (Asj l c).map (·.Name)) := by
 unfold Anw
 rw [Ac8 hc, APv]
 have hf : (l[c]).Fields.length ≤ 1048576 := h.2 _ (AP5 hc)
 have := Akf l[c].Fields.length (body := Aio l[c]) (fun i => (s ++ (l[c].Fields.take i).map (·.Name), (i : Int))) (r := s ++ l[c].Fields.map (·.Name)) (fun i hi => by
  unfold Aio
  dsimp only
  rw [Bu (by rw [AS]; omega), Ac8 hi, APv, Ae6 (by simp; omega), APv, wr1 (by omega), Av9, AP7]) (by
  unfold Aio
  dsimp only
  rw [A7 (by rw [AS]; omega), AQa]) (s0 := (s, 0)) (by simp)
 rw [this, APv, Ay1 hc]
theorem ACe (l : List BV) (h : Alb l) {n : Nat} (R : Aia l n) (hn32 : n ≤ 64) (c : Int) (hn : c < n) (hl : c < l.length) :
  Aje l c l [] = some ((Agi l c).flatMap fun c => (Asj l c).map (·.Name)) := by
 have key := Avo R (body := Afr l l) (fun s c => s ++ (Asj l c).map (·.Name)) (fun _ _ => true) (fun s c => (s.length : Int) + (c + 1) * 1048576 ≤ 1099511627776) (fun s c hc hcn hI => by
  unfold Afr
  dsimp only
  have hr := R c hc hcn
  rw [Bu (by rw [AS]; omega), Bu (by rw [AS]; omega), AEh l h c hc s (by omega), APv]
  dsimp only
  rw [Bu rfl, Ac8 hc, APv, A7 (by rw [AS]; omega), Bu rfl]) (fun s c hc hcn hI => by
  have hr := R c hc hcn
  have := A4m h c
  rw [APz, AP0]
  omega) (fun s c hc => by
  unfold Afr
  dsimp only
  rw [A7 (by rw [AS]; omega)]) (c.toNat + 1) c [] (by omega) hn hl (by simp; omega)
 unfold Aje
 rw [key, APv, A01]
 rfl
theorem AD4 (l : List BV) {n : Nat} (R : Aia l n) (hnb : n ≤ 1048576) (c : Int) (hn : c < n) (hl : c < l.length) :
  Aht l c [] = some ((Agi l c).map fun (c : Nat) => (c : Int)) := by
 have key := Avo R (body := Aej l) (fun s c => s ++ [(c : Int)]) (fun _ _ => true) (fun s c => (s.length : Int) + (c + 1) ≤ 1099511627776) (fun s c hc hcn hI => by
  unfold Aej Ap5
  dsimp only
  have hr := R c hc hcn
  rw [Bu (by rw [AS]; omega), Bu (by rw [AS]; omega), Ae6 (by simp; omega), APv, APv]
  dsimp only
  rw [Bu rfl, Ac8 hc, APv, A7 (by rw [AS]; omega), Bu rfl]) (fun s c hc hcn hI => by
  have hr := R c hc hcn
  rw [APz, AP1]
  omega) (fun s c hc => by
  unfold Aej
  dsimp only
  rw [A7 (by rw [AS]; omega)]) (c.toNat + 1) c [] (by omega) hn hl (by simp; omega)
 unfold Aht
 rw [key, APv, A01 (fun c => [(c : Int)])]
 rw [AP6, AOi (fun c : Nat => (c : Int))]
theorem AAr (l : List BV) {n : Nat} (R : Aia l n) (hnb : n ≤ 1048576) (c : Int) (hn : c < n) (hl : c < l.length) :
  Ak3 l c = some ((Agi l c).map fun (c : Nat) => (c : Int)) := by
 have key : ∀ (k : Nat) (c : Int) (out : List Int), c < k → c < n → c < l.length → (out.length : Int) + (c + 1) ≤ l.length ∧ (out.length : Int) + (c + 1) ≤ 1048577 → Aa4 (Agq l) (c, out) = some (out ++ (Agi l c).map fun (c : Nat) => (c : Int)) := by
  intro k
  induction k with
  | zero =>
   intro c out hk hn hl ho
   rw [Amn (by omega), Ada (r := out)]
   ·simp
   ·unfold Agq
    rw [A7 (by rw [AS]; dsimp only; omega)]
  | succ k ih =>
   intro c out hk hn hl ho
   by_cases h0 : 0 ≤ c
   ·obtain ⟨c, rfl⟩ := AQc h0
    have hr := R c (by omega) (by omega)
    rw [Apz R c (by omega) (by omega), Afd (s' := (l[c].Ace, out ++ [(c : Int)]))]
    ·rw [ih _ _ (by omega) (by omega) (by omega) (by rw [APz, AP1]; omega)]
     simp
    ·unfold Agq
     dsimp only
     rw [Bu (by rw [AS]; omega), Bu (by rw [AS]; omega), Bu (by rw [AS]; omega), Ae6 (by simp; omega), APv, Ac8 (by omega), APv]
   ·rw [Amn (by omega), Ada (r := out)]
    ·simp
    ·unfold Agq
     rw [A7 (by rw [AS]; dsimp only; omega)]
 unfold Ak3
 rw [key (c.toNat + 1) c [] (by omega) hn hl (by simp; omega), APv, AP6]
def Aee (l : List BV) (c : Int) : List Acg := (Agi l c).reverse.flatMap (Asj l)
theorem A8q (l : List BV) (h : Alb l) (L : List Nat) (hL : ∀ x ∈ L, x < l.length) (hb : L.length ≤ 1048576) {body : List Acg × Int → Option ((List Acg × Int) ⊕ List Acg)}
  (he : body = Ahl l (L.map fun (c : Nat) => (c : Int))) : Aa4 body ([], wr (((L.map fun (c : Nat) => (c : Int)).length : Int) - 1)) = some (L.reverse.flatMap (Asj l)) := by
 subst he
 rw [AP0, Aec (by omega) (by omega)]
 have key : ∀ (k : Nat) (acc : List Acg), k ≤ L.length → acc.length + k * 1048576 ≤ 1099511627776 → Aa4 (Ahl l (L.map fun (c : Nat) => (c : Int))) (acc, (k : Int) - 1) = some (acc ++ (L.take k).reverse.flatMap (Asj l)) := by
  intro k
  induction k with
  | zero =>
   intro acc _ _
   rw [Ada (r := acc)]
   ·simp
   ·unfold Ahl
    rw [A7 (by rw [AS]; dsimp only; omega)]
  | succ k ih =>
   intro acc hk ha
   have hx : L[k]'(by omega) < l.length := hL _ (AP5 _)
   have hlen : (Asj l (L[k]'(by omega))).length ≤ 1048576 := A4m h _
   rw [Afd (s' := (acc ++ Asj l (L[k]'(by omega)), (k : Int) - 1))]
   ·rw [ih _ (by omega) (by rw [APz]; omega), show L.take (k + 1) = L.take k ++ [L[k]'(by omega)] by rw [List.take_add_one, APy (by omega)]; rfl, List.reverse_append, List.reverse_singleton, List.singleton_append, List.flatMap_cons, AP7]
   ·unfold Ahl
    dsimp only
    rw [show (((k + 1 : Nat) : Int) - 1) = (k : Int) by omega, Bu (by rw [AS]; omega), Ac8 (by rw [AP0]; omega), APv, List.getElem_map, Ac8 hx, APv,
     Ae6 (by rw [Ay1 hx] at hlen; omega), APv, Aec (by omega) (by omega), Ay1 hx]
 have := key L.length [] (Nat.le_refl _) (by simp; omega)
 rw [this, AQa, AP6]
theorem AD3 (l : List BV) (h : Alb l) {n : Nat} (R : Aia l n) (hnb : n ≤ 1048576) (c : Int) (hn : c < n) (hl : c < l.length) : Alq l c = some (Aee l c) := by
 unfold Alq
 have hlen := Axe R (c.toNat + 1) c (by omega) hn hl
 rw [AD4 l R hnb c hn hl, APv, A8q l h (Agi l c) (fun x hx => (Ath R (c.toNat + 1) c (by omega) hn hl x hx).2) (by
  omega) rfl, APv]
 rfl
theorem A55 (l : List BV) (h : Alb l) {n : Nat} (R : Aia l n) (hnb : n ≤ 1048576) (c : Int) (hn : c < n) (hl : c < l.length) : Afq l c = some (Aee l c) := by
 unfold Afq
 have hlen := Axe R (c.toNat + 1) c (by omega) hn hl
 have hd := A8q l h (Agi l c) (fun x hx => (Ath R (c.toNat + 1) c (by omega) hn hl x hx).2) (by omega) (body := Aj1 l ((Agi l c).map fun (c : Nat) => (c : Int))) rfl
 rw [AAr l R hnb c hn hl, APv, hd, APv]
 rfl
end Go.Proofs.YtfcpkcehecmcpaaGreat
namespace Go.Proofs.YtfcpkcehecmcpaaGreat
open Go Go.RowKit Go.Pv
theorem A6o {R : Type} (n : Nat) {body : Int → Option (Int ⊕ R)} (f : Nat → Option R) {r0 : R}
  (hs : ∀ i, i < n → (∀ j, j < i → f j = none) → body (i : Int) = match f i with | some r => some (.inr r) | none => some (.inl ((i + 1 : Nat) : Int))) (he : (∀ j, j < n → f j = none) → body (n : Int) = some (.inr r0)) :
  Aa4 body 0 = some (((List.range n).findSome? f).getD r0) := by
 have key : ∀ k i, i + k = n → (∀ j, j < i → f j = none) → Aa4 body (i : Int) = some (((List.range' i k).findSome? f).getD r0) := by
  intro k
  induction k with
  | zero =>
   intro i hi hj
   have : i = n := by omega
   subst this
   rw [Ada (he hj)]; rfl
  | succ k ih =>
   intro i hi hj
   have h1 := hs i (by omega) hj
   rw [List.range'_succ, List.findSome?_cons]
   rcases hf : f i with _ | r
   ·rw [hf] at h1
    rw [Afd h1]
    exact ih (i + 1) (by omega) (fun j hj' => by
     rcases Nat.lt_succ_iff_lt_or_eq.1 hj' with h | h
     ·exact hj j h
     ·rw [h]; exact hf)
   ·rw [hf] at h1
    rw [Ada h1]; rfl
 have := key n 0 (by omega) (fun j h => by omega)
 rw [List.range_eq_range']
 exact this
theorem A81 (l : List (List UInt8)) (hl : l.length ≤ 1099511627776) (x : List UInt8) : Aei l x = some (l.any fun y => x == y) := by
 unfold Aei
 obtain ⟨r, h1, h2, _⟩ := Awl l (fun y => x == y) (body := Ady l x) (fun i hi => by
  unfold Ady
  rw [Bu (by rw [AS]; omega), Ac8 hi, APv, wr1 (by omega)]) (by
  unfold Ady
  rw [A7 (by rw [AS]; omega)])
 have h1' : Ah6 l x = some r := h1
 rw [h1', APv, h2]
theorem ADf (l : List Acg) (hl : l.length ≤ 1099511627776) (x : List UInt8) : Ans l x = some (l.any fun y => y.Name == x) := by
 have := AA7 l (fun y => y.Name == x) (body := Ain l x) (fun i hi => by
  unfold Ain
  rw [Bu (by rw [AS]; omega), Ac8 hi, APv, wr1 (by omega)]) (by
  unfold Ain
  rw [A7 (by rw [AS]; omega)])
 exact this
theorem AE8 {R S : Type} (L : List Nat) (P : Nat → Option R) (f : R → S) : L.findSome? (fun i => (P i).map f) = (L.findSome? P).map f := by
 induction L with
 | nil => rfl
 | cons x l ih => simp only [List.findSome?_cons]; rcases P x with _ | r <;> simp [ih]
def ffV (l : List BV) (all own : List Acg) (i : Nat) : Option Int := match own[i]? with
 | none => none
 | some f => if Au8 f.Name = false then some 6 else if (all.any fun y => y.Name == f.Name) = true ∨ ((own.take i).any fun y => y.Name == f.Name) = true then some 20 else if st l f.Akl = false then some 22 else none
def Ata (l : List BV) (all own : List Acg) : Int := ((List.range own.length).findSome? (ffV l all own)).getD (if 32 < all.length + own.length then 4 else 0)
def An8 (l : List BV) (c : Nat) : Int := match l[c]? with
 | none => 0
 | some x => if 32 ≤ c then 4 else if Au8 x.Name = false then 6 else if (wordsL.any fun y => x.Name == y) = true then 6 else if ((l.take c).any fun y => y.Name == x.Name) = true then 20
  else if x.Ace < -1 ∨ (c : Int) ≤ x.Ace then 21 else Ata l (Aee l x.Ace) x.Fields
theorem A39 {α β : Type} (f : α → List β) (n : Nat) : ∀ (L : List α), (∀ x ∈ L, (f x).length ≤ n) → (L.flatMap f).length ≤ L.length * n
 | [], _ => by simp
 | x :: L, h => by
  rw [List.flatMap_cons, APz, List.length_cons]
  have h1 := h x (by simp)
  have h2 := A39 f n L (fun y hy => h y (by simp [hy]))
  rw [Nat.succ_mul]
  omega
theorem A02 {α β : Type} (f : α → List β) : ∀ (L : List α), (L.reverse.flatMap f).length = (L.flatMap f).length
 | [] => rfl
 | x :: L => by
  rw [List.reverse_cons, List.flatMap_append, APz, A02 f L, List.flatMap_cons, APz]
  simp
  omega
theorem AHd (l : List BV) (p : Int) (x : List UInt8) : (((Agi l p).flatMap fun c => (Asj l c).map (·.Name)).any fun y => x == y) = ((Aee l p).any fun y => y.Name == x) := by
 rw [AQe, List.any_eq_true, List.any_eq_true]
 constructor
 ·rintro ⟨y, hy, he⟩
  obtain ⟨c, hc, hy⟩ := List.mem_flatMap.1 hy
  obtain ⟨f, hf, rfl⟩ := List.mem_map.1 hy
  refine ⟨f, List.mem_flatMap.2 ⟨c, by simpa using hc, hf⟩, ?_⟩
  rw [JY] at he ⊢
  exact he.symm
 ·rintro ⟨f, hf, he⟩
  obtain ⟨c, hc, hf⟩ := List.mem_flatMap.1 hf
  refine ⟨f.Name, List.mem_flatMap.2 ⟨c, by simpa using hc, List.mem_map.2 ⟨f, hf, rfl⟩⟩, ?_⟩
  rw [JY] at he ⊢
  exact he.symm
theorem AGa (l : List BV) (p : Int) : ((Agi l p).flatMap fun c => (Asj l c).map (·.Name)).length = (Aee l p).length := by
 unfold Aee
 rw [A02, List.length_flatMap, List.length_flatMap]
 simp
theorem A33 (l : List BV) (h : Alb l) {n : Nat} (R : Aia l n) (hn32 : n ≤ 64) (c : Int) (hn : c < n) (hl : c < l.length) : (Aee l c).length ≤ 67108864 := by
 unfold Aee
 have h1 := A39 (Asj l) 1048576 (Agi l c).reverse (fun x _ => A4m h x)
 have h2 := Axe R (c.toNat + 1) c (by omega) hn hl
 rw [List.length_reverse] at h1
 have h3 : (Agi l c).length ≤ 64 := by omega
 omega
theorem A7m (M : List (List UInt8)) (own : List Acg) (i : Nat) (x : List UInt8) : ((M ++ (own.take i).map (·.Name)).any fun y => x == y) = ((M.any fun y => x == y) || ((own.take i).any fun y => y.Name == x)) := by
 rw [List.any_append, List.any_map]
 congr 2
 funext y
 show (x == y.Name) = (y.Name == x)
 rw [AQe, JY, JY]; exact eq_comm
theorem ACj (l : List BV) (h : Alb l) {n : Nat} (R : Aia l n) (hn32 : n ≤ 64) (c : Nat) (hc : c < l.length) (hp : l[c].Ace < n) (hpl : l[c].Ace < l.length) :
  Aqz l (c : Int) = some (Ata l (Aee l l[c].Ace) l[c].Fields) := by
 unfold Aqz
 rw [Ac8 hc, APv, ACe l h R hn32 _ hp hpl, APv, APv]
 have hN := AGa l l[c].Ace
 have hA := AHd l l[c].Ace
 have hL := A33 l h R hn32 _ hp hpl
 have hf : l[c].Fields.length ≤ 1048576 := h.2 _ (AP5 hc)
 generalize hM : ((Agi l l[c].Ace).flatMap fun c => (Asj l c).map (·.Name)) = M at *
 generalize hall : Aee l l[c].Ace = all at *
 generalize hown : l[c] = x at *
 -- the loop
 have key : ∀ k i, i + k = x.Fields.length → Aa4 (Ajj l x) (M ++ (x.Fields.take i).map (·.Name), (i : Int)) = some (((List.range' i k).findSome? fun i => (ffV l all x.Fields i).map Sum.inl).getD (.inr (M ++ x.Fields.map (·.Name)))) := by
  intro k
  induction k with
  | zero =>
   intro i hi
   have : i = x.Fields.length := by omega
   subst this
   rw [Ada (r := .inr (M ++ x.Fields.map (·.Name)))]
   ·rfl
   ·unfold Ajj
    dsimp only
    rw [A7 (by rw [AS]; omega), AQa]
  | succ k ih =>
   intro i hi
   have hi' : i < x.Fields.length := by omega
   have hb : Ajj l x (M ++ (x.Fields.take i).map (·.Name), (i : Int)) = match ffV l all x.Fields i with
    | some e => some (.inr (.inl e))
    | none => some (.inl (M ++ (x.Fields.take (i + 1)).map (·.Name), ((i + 1 : Nat) : Int))) := by
    unfold Ajj ffV
    dsimp only
    rw [Bu (by rw [AS]; omega), Ac8 hi', APv, A0g, APv, APy hi']
    dsimp only
    rcases hn : Au8 x.Fields[i].Name with _ | _
    ·rfl
    ·rw [A7 (c := (!true) = true) (by simp), A7 (c := true = false) (by simp), A81 _ (by simp; omega), APv, A7m, hA]
     by_cases h1 : (all.any fun y => y.Name == x.Fields[i].Name) = true ∨ ((x.Fields.take i).any fun y => y.Name == x.Fields[i].Name) = true
     ·rw [Bu (by rw [AQf]; exact h1), Bu h1]
     ·rw [A7 (by rw [AQf]; exact h1), A7 h1, ACh, APv]
      rcases hs : st l x.Fields[i].Akl with _ | _
      ·rfl
      ·rw [A7 (c := (!true) = true) (by simp), A7 (c := true = false) (by simp), Ae6 (by simp; omega), APv, wr1 (by omega), Av9 (·.Name) _ i hi', AP7]
   rw [List.range'_succ, List.findSome?_cons]
   rcases hff : ffV l all x.Fields i with _ | e
   ·rw [hff] at hb
    rw [Afd hb]
    exact ih (i + 1) (by omega)
   ·rw [hff] at hb
    rw [Ada hb]; rfl
 have := key x.Fields.length 0 (by omega)
 rw [List.take_zero, List.map_nil, List.append_nil] at this
 rw [show ((0 : Nat) : Int) = 0 from rfl] at this
 rw [this, APv]
 unfold Ata
 rw [List.range_eq_range']
 have hm := AE8 (List.range' 0 x.Fields.length) (ffV l all x.Fields) (Sum.inl : Int → Int ⊕ List (List UInt8))
 rw [hm]
 rcases (List.range' 0 x.Fields.length).findSome? (ffV l all x.Fields) with _ | e
 ·simp only [Option.map_none, Option.getD_none]
  rw [APz, AP0, hN]
  by_cases h32 : 32 < all.length + x.Fields.length
  ·rw [Bu (by rw [AS]; omega), Bu h32]
  ·rw [A7 (by rw [AS]; omega), A7 h32]
 ·rfl
end Go.Proofs.YtfcpkcehecmcpaaGreat
namespace Go.Proofs.YtfcpkcehecmcpaaGreat
open Go Go.RowKit Go.Pv
theorem Azb {α β : Type} {f g : α → Option β} : ∀ {l : List α}, (∀ x ∈ l, f x = g x) → l.findSome? f = l.findSome? g
 | [], _ => rfl
 | x :: l, h => by rw [List.findSome?_cons, List.findSome?_cons, h x (by simp), Azb fun y hy => h y (by simp [hy])]
theorem Az9 {α β : Type} (o : Option α) (d : β) : ((o.map (Sum.inl : α → α ⊕ β)).getD (.inr d)) = match o with | some e => .inl e | none => .inr d := by cases o <;> rfl
theorem AB3 (l : List BV) (h : Alb l) (x : BV) (all : List Acg) (hL : all.length ≤ 67108864) (hf : x.Fields.length ≤ 1048576) :
  ((Aa4 (Aga l x all) 0).bind fun o => match o with
   | .inl p => some p
   | .inr _ => if decide ((x.Fields.length : Int) > wr (32 - (all.length : Int))) = true then some 4 else some 0) = some (Ata l all x.Fields) := by
 have hl := Ak7 (R := Int ⊕ Unit) x.Fields.length (body := Aga l x all) (fun i => (ffV l all x.Fields i).map .inl) (r0 := .inr ()) (fun i hi => by
  unfold Aga ffV
  rw [Bu (by rw [AS]; omega), Ac8 hi, APv, A6p, APv, APy hi]
  dsimp only
  rcases hn : Au8 x.Fields[i].Name with _ | _
  ·rfl
  ·rw [A7 (c := (!true) = true) (by simp), A7 (c := true = false) (by simp), ADf _ (by omega), APv]
   rcases h1 : (all.any fun y => y.Name == x.Fields[i].Name) with _ | _
   ·rw [A7 (c := false = true) (by simp), Aud (by omega), APv, AQb, Int.toNat_zero, List.drop_zero, ADf _ (by rw [List.length_take]; omega), APv]
    rcases h2 : ((x.Fields.take i).any fun y => y.Name == x.Fields[i].Name) with _ | _
    ·rw [A7 (c := false = true) (by simp), A7 (c := false = true ∨ false = true) (by simp), Ayf, APv]
     rcases hs : st l x.Fields[i].Akl with _ | _
     ·rfl
     ·rw [A7 (c := (!true) = true) (by simp), A7 (c := true = false) (by simp), wr1 (by omega)]; rfl
    ·rw [Bu rfl, Bu (Or.inr rfl)]; rfl
   ·rw [Bu rfl, Bu (Or.inl rfl)]; rfl) (by
  unfold Aga
  rw [A7 (by rw [AS]; omega)])
 rw [hl, APv, Aop, Az9]
 unfold Ata
 rcases (List.range x.Fields.length).findSome? (ffV l all x.Fields) with _ | e
 ·simp only [Option.getD_none]
  rw [Aec (by omega) (by omega)]
  by_cases h32 : 32 < all.length + x.Fields.length
  ·rw [Bu (by rw [AS]; omega), Bu h32]
  ·rw [A7 (by rw [AS]; omega), A7 h32]
 ·rfl
theorem AFh (l : List BV) (h : Alb l) (c : Nat) (hc : c ≤ l.length) (x : BV) : Ad1 (l.take c) x = some ((l.take c).any fun y => y.Name == x.Name) := by
 have hb : l.length ≤ 1048576 := h.1
 unfold Ad1
 obtain ⟨r, h1, h2, _⟩ := Awl (l.take c) (fun y => y.Name == x.Name) (body := Adb (l.take c) x) (fun i hi => by
  unfold Adb Aqq
  have hi' : i < c := by rw [List.length_take] at hi; omega
  rw [Bu (by rw [AS]; omega), Ac8 hi, APv, APv, wr1 (by omega)]) (by
  unfold Adb
  rw [A7 (by rw [AS]; omega)])
 have h1' : Ae1 (l.take c) x = some r := h1
 rw [show (⟨x.Name, x.Ace, x.Fields⟩ : BV) = x from rfl, h1', APv, h2]
theorem AE7 (l : List BV) (h : Alb l) (c : Nat) (hc : c < l.length) (R : Aia l c) : Alx l (c : Int) = some (An8 l c) := by
 have hb : l.length ≤ 1048576 := h.1
 unfold Alx An8
 rw [Ac8 hc, APv, APy hc]
 dsimp only
 by_cases h32 : 32 ≤ c
 ·rw [Bu (by rw [AS]; omega), Bu h32]
 rw [A7 (by rw [AS]; omega), A7 h32, A6p, APv]
 rcases Au8 l[c].Name with _ | _
 ·rfl
 rw [A7 (c := (!true) = true) (by simp), A7 (c := true = false) (by simp), AEm, APv]
 rcases (wordsL.any fun y => l[c].Name == y) with _ | _
 rotate_left
 ·rfl
 rw [A7 (c := false = true) (by simp), A7 (c := false = true) (by simp)]
 have hl := Ak7 (R := Int ⊕ Unit) c (body := Ahc l (c : Int) l[c]) (fun i => (Aqp l (fun y => y.Name == l[c].Name) i).map fun _ => .inl 20) (r0 := .inr ()) (fun i hi => by
  unfold Ahc
  rw [Bu (by rw [AS]; omega), Ac8 (by omega), APv, wr1 (by omega), Atb (by omega)]
  split <;> rfl) (by
  unfold Ahc
  rw [A7 (by rw [AS]; omega)])
 rw [hl, APv, Aop]
 have hany : ((List.range c).findSome? (Aqp l fun y => y.Name == l[c].Name)).isSome = ((l.take c).any fun y => y.Name == l[c].Name) := by
  have hn := Axk (l.take c) fun y => y.Name == l[c].Name
  have e : (List.range (l.take c).length).findSome? (Aqp (l.take c) fun y => y.Name == l[c].Name) = (List.range c).findSome? (Aqp l fun y => y.Name == l[c].Name) := by
   rw [List.length_take, Nat.min_eq_left (by omega)]
   apply Azb
   intro i hi
   have hi' := List.mem_range.1 hi
   unfold Aqp
   rw [List.getElem?_take_of_lt hi']
  rw [e] at hn
  rcases hf : (List.range c).findSome? (Aqp l fun y => y.Name == l[c].Name) with _ | r
  ·rw [hn.1 hf]; rfl
  ·rcases hb : (l.take c).any fun y => y.Name == l[c].Name with _ | _
   ·rw [hn.2 hb] at hf; cases hf
   ·rfl
 rw [← hany]
 rcases (List.range c).findSome? (Aqp l fun y => y.Name == l[c].Name) with _ | r
 rotate_left
 ·rfl
 simp only [Option.map_none, Option.getD_none, Option.isSome_none, Bool.false_eq_true, if_false]
 by_cases hp1 : l[c].Ace < -1
 ·rw [Bu (by rw [AS]; omega), Bu (Or.inl hp1)]
 rw [A7 (by rw [AS]; omega)]
 by_cases hp2 : (c : Int) ≤ l[c].Ace
 ·rw [Bu (by rw [AS]; omega), Bu (Or.inr hp2)]
 rw [A7 (by rw [AS]; omega), A7 (by omega), A55 l h R (by omega) _ (by omega) (by omega), APv]
 exact AB3 l h l[c] _ (A33 l h R (by omega) _ (by omega) (by omega)) (h.2 _ (AP5 hc))
end Go.Proofs.YtfcpkcehecmcpaaGreat
namespace Go.Proofs.YtfcpkcehecmcpaaGreat
open Go Go.RowKit Go.Pv
structure Good (l : List BV) : Prop where
 tab : Alb l
 few : l.length ≤ 32
 right : Aia l l.length
 fields : ∀ c, c < l.length → (Aee l (c : Int)).length ≤ 32
 stored : ∀ (c : Nat) (h : c < l.length), ∀ f ∈ l[c].Fields, st l f.Akl = true
theorem AAj {l : List BV} {all own : List Acg} (h : Ata l all own = 0) : all.length + own.length ≤ 32 ∧ ∀ f ∈ own, st l f.Akl = true := by
 unfold Ata at h
 rcases hf : (List.range own.length).findSome? (ffV l all own) with _ | e
 ·rw [hf, Option.getD_none] at h
  constructor
  ·by_cases h32 : 32 < all.length + own.length
   ·rw [Bu h32] at h; cases h
   ·omega
  ·intro f hfm
   obtain ⟨i, hi, rfl⟩ := List.mem_iff_getElem.1 hfm
   have := (List.findSome?_eq_none_iff.1 hf) i (List.mem_range.2 hi)
   unfold ffV at this
   rw [APy hi] at this
   dsimp only at this
   split at this
   ·cases this
   ·split at this
    ·cases this
    ·split at this
     ·cases this
     ·rename_i hs; simpa using hs
 ·rw [hf, Option.getD_some] at h
  subst h
  obtain ⟨i, hi, hr⟩ := List.exists_of_findSome?_eq_some hf
  unfold ffV at hr
  split at hr
  ·cases hr
  ·repeat' split at hr
   all_goals cases hr
theorem Asl {l : List BV} {c : Nat} (hc : c < l.length) (h : An8 l c = 0) : c < 32 ∧ -1 ≤ l[c].Ace ∧ l[c].Ace < c ∧ (Aee l l[c].Ace).length + l[c].Fields.length ≤ 32 ∧ ∀ f ∈ l[c].Fields, st l f.Akl = true := by
 unfold An8 at h
 rw [APy hc] at h
 dsimp only at h
 split at h
 ·cases h
 ·split at h
  ·cases h
  ·split at h
   ·cases h
   ·split at h
    ·cases h
    ·split at h
     ·cases h
     ·have := AAj h
      exact ⟨by omega, by omega, by omega, this.1, this.2⟩
theorem AAc {l : List BV} {n : Nat} (R : Aia l n) (c : Nat) (h : c < l.length) (hn : c < n) : Aee l (c : Int) = Aee l l[c].Ace ++ l[c].Fields := by
 unfold Aee
 rw [Apz R c h hn, List.reverse_cons, List.flatMap_append]
 simp [Ay1 h]
theorem A5a {l : List BV} (n : Nat) (h : ∀ j, j < n → j < l.length → An8 l j = 0) : Aia l n := fun i hi hn => ⟨(Asl hi (h i hn hi)).2.1, (Asl hi (h i hn hi)).2.2.1⟩
def Atv (l : List BV) (c : Nat) : Option (Int × Int) := if An8 l c = 0 then none else some ((c : Int), An8 l c)
def Asy (l : List BV) : Int × Int := ((List.range l.length).findSome? (Atv l)).getD (0, 0)
theorem A10 {l : List BV} {c : Nat} (h : Atv l c = none) : An8 l c = 0 := by
 unfold Atv at h
 split at h
 ·assumption
 ·cases h
theorem ALq {l : List BV} (h : Alb l) (hv : (Asy l).2 = 0) : Good l := by
 have h0 : ∀ j, j < l.length → An8 l j = 0 := by
  unfold Asy at hv
  rcases hf : (List.range l.length).findSome? (Atv l) with _ | e
  ·intro j hj
   exact A10 ((List.findSome?_eq_none_iff.1 hf) j (List.mem_range.2 hj))
  ·rw [hf, Option.getD_some] at hv
   obtain ⟨i, hi, hr⟩ := List.exists_of_findSome?_eq_some hf
   unfold Atv at hr
   split at hr
   ·cases hr
   ·rename_i hne; cases hr; exact absurd hv hne
 have R : Aia l l.length := A5a _ fun j hj _ => h0 j hj
 refine ⟨h, ?_, R, ?_, ?_⟩
 ·rcases hl : l.length with _ | k
  ·omega
  ·have := (Asl (c := k) (by omega) (h0 k (by omega))).1; omega
 ·intro c hc
  rw [AAc R c hc hc, APz]
  exact (Asl hc (h0 c hc)).2.2.2.1
 ·intro c hc
  exact (Asl hc (h0 c hc)).2.2.2.2
theorem Avy (l : List BV) (h : Alb l) : Ake l = some (Asy l) := by
 have hb : l.length ≤ 1048576 := h.1
 have hl := A6o (R := (Int × Int) ⊕ Unit) l.length (body := Ag9 l) (fun c => (Atv l c).map .inl) (r0 := .inr ()) (fun c hc hj => by
  unfold Ag9
  have R : Aia l c := A5a c fun j hj' _ => A10 (by have := hj j hj'; simpa using this)
  rw [Bu (by rw [AS]; omega), AE7 l h c hc R, APv, wr1 (by omega)]
  unfold Atv
  by_cases h0 : An8 l c = 0
  ·rw [A7 (by rw [Aas]; exact fun hn => hn h0), Bu h0]; rfl
  ·rw [Bu (by rw [Aas]; exact h0), A7 h0]; rfl) (fun _ => by
  unfold Ag9
  rw [A7 (by rw [AS]; omega)])
 unfold Ake
 rw [hl, APv, Aop, Az9]
 unfold Asy
 rcases (List.range l.length).findSome? (Atv l) with _ | e <;> rfl
theorem AEc (l : List BV) (h : Alb l) (c : Nat) (hc : c < l.length) (R : Aia l c) : Akc l (c : Int) = match (Atv l c).map Sum.inl with | some r => some (.inr r) | none => some (.inl ((c + 1 : Nat) : Int)) := by
 have hb : l.length ≤ 1048576 := h.1
 have key : ∀ e : Int, e = An8 l c → ((some e).bind fun o => if (o != 0) = true then some (.inr (.inl ((c : Int), o))) else some (.inl (wr ((c : Int) + 1)))) = (match (Atv l c).map (Sum.inl : Int × Int → (Int × Int) ⊕ Unit) with | some r => some (Sum.inr r) | none => some (Sum.inl ((c + 1 : Nat) : Int)) : Option (Int ⊕ ((Int × Int) ⊕ Unit))) := by
  intro e he
  subst he
  rw [APv, wr1 (by omega)]
  unfold Atv
  by_cases h0 : An8 l c = 0
  ·rw [A7 (by rw [Aas]; exact fun hn => hn h0), Bu h0]; rfl
  ·rw [Bu (by rw [Aas]; exact h0), A7 h0]; rfl
 unfold Akc
 rw [Bu (by rw [AS]; omega), Ac8 hc, APv]
 have hv : An8 l c = if 32 ≤ c then 4 else if Au8 l[c].Name = false then 6 else if (wordsL.any fun y => l[c].Name == y) = true then 6 else if ((l.take c).any fun y => y.Name == l[c].Name) = true then 20
  else if l[c].Ace < -1 ∨ (c : Int) ≤ l[c].Ace then 21 else Ata l (Aee l l[c].Ace) l[c].Fields := by
  unfold An8
  rw [APy hc]
 by_cases h32 : 32 ≤ c
 ·rw [Bu (by rw [AS]; omega)]
  exact key 4 (by rw [hv, Bu h32])
 rw [A7 (by rw [AS]; omega), A0g, APv]
 rw [A7 h32] at hv
 rcases hn : Au8 l[c].Name with _ | _
 ·rw [hn, Bu rfl] at hv
  exact key 6 hv.symm
 rw [hn, A7 (c := true = false) (by simp)] at hv
 rw [A7 (c := (!true) = true) (by simp), AEt, APv, ABf wordsL (by decide), APv]
 rcases hw : (wordsL.any fun y => l[c].Name == y) with _ | _
 rotate_left
 ·rw [hw, Bu rfl] at hv
  exact key 6 hv.symm
 rw [hw, A7 (c := false = true) (by simp)] at hv
 rw [A7 (c := false = true) (by simp), Aud (by omega), APv, AQb, Int.toNat_zero, List.drop_zero, show (⟨l[c].Name, l[c].Ace, l[c].Fields⟩ : BV) = l[c] from rfl, AFh l h c (by omega), APv]
 rcases ht : ((l.take c).any fun y => y.Name == l[c].Name) with _ | _
 rotate_left
 ·rw [ht, Bu rfl] at hv
  exact key 20 hv.symm
 rw [ht, A7 (c := false = true) (by simp)] at hv
 rw [A7 (c := false = true) (by simp)]
 by_cases hp1 : l[c].Ace < -1
 ·rw [Bu (by rw [AS]; omega)]
  exact key 21 (by rw [hv, Bu (Or.inl hp1)])
 rw [A7 (by rw [AS]; omega)]
 by_cases hp2 : (c : Int) ≤ l[c].Ace
 ·rw [Bu (by rw [AS]; omega)]
  exact key 21 (by rw [hv, Bu (Or.inr hp2)])
 rw [A7 (by rw [AS]; omega), ACj l h R (by omega) c hc (by omega) (by omega), APv]
 exact key _ (by rw [hv, A7 (by omega)])
theorem A8e (l : List BV) (h : Alb l) : Aqh l = some (Asy l) := by
 have hb : l.length ≤ 1048576 := h.1
 have hl := A6o (R := (Int × Int) ⊕ Unit) l.length (body := Akc l) (fun c => (Atv l c).map .inl) (r0 := .inr ()) (fun c hc hj => by
  rw [AEc l h c hc (A5a c fun j hj' _ => A10 (by have := hj j hj'; simpa using this))]
  rcases Atv l c with _ | _ <;> rfl) (fun _ => by
  unfold Akc
  rw [A7 (by rw [AS]; omega)])
 unfold Aqh
 rw [hl, APv, Aop, Az9]
 unfold Asy
 rcases (List.range l.length).findSome? (Atv l) with _ | e <;> rfl
end Go.Proofs.YtfcpkcehecmcpaaGreat
namespace Go.Proofs.YtfcpkcehecmcpaaGreat
open Go Go.RowKit Go.Pv
def Le (l : List BV) (a b : UInt8) : Prop := tv l a = true ∧ tv l b = true ∧ (a = b ∨ b.toNat = 0 ∨ (a.toNat = 3 ∧ rf b = true) ∨ (rf a = true ∧ b.toNat = 5) ∨ (16 ≤ a.toNat ∧ 16 ≤ b.toNat ∧ (b.toNat - 16) ∈ Agi l ((a.toNat - 16 : Nat) : Int)))
instance (l : List BV) (a b : UInt8) : Decidable (Le l a b) := by unfold Le; infer_instance
theorem Ass {l : List BV} {t : UInt8} (h : tv l t = true) (h16 : 16 ≤ t.toNat) : cls l t = ((t.toNat - 16 : Nat) : Int) ∧ t.toNat - 16 < l.length := by
 unfold tv at h
 simp only [AQf, AQd, AS] at h
 have h2 : t.toNat - 16 < l.length := by omega
 unfold cls
 rw [Bu ⟨h16, h2⟩]
 exact ⟨rfl, h2⟩
theorem A6e {l : List BV} {t : UInt8} (h16 : ¬ 16 ≤ t.toNat) : cls l t = -1 := by
 unfold cls
 rw [A7 (by omega)]
theorem A8f {l : List BV} (G : Good l) (y : Int) : ∀ (L : List Nat) (s : Bool), Aye (fun s c => (c : Int) == y) (fun s c => !((c : Int) == y)) L s = if L = [] then s else L.any fun c => (c : Int) == y
 | [], s => rfl
 | c :: r, s => by
  rw [Aye, A8f G y r]
  rcases hc : ((c : Int) == y) with _ | _
  ·rw [Bu (c := (!false) = true) (by simp), A7 (c := c :: r = []) (by simp), List.any_cons, hc, Bool.false_or]
   split
   ·rename_i h; rw [h]; rfl
   ·rfl
  ·rw [A7 (c := (!true) = true) (by simp), A7 (c := c :: r = []) (by simp), List.any_cons, hc, Bool.true_or]
theorem A74 (l : List BV) (G : Good l) (c : Int) (hc : c < l.length) (y : Int) : Aqg l c y = some ((Agi l c).any fun x => (x : Int) == y) := by
 have hb : l.length ≤ 1048576 := G.tab.1
 have key := Avo G.right (body := Aft l y) (fun s c => (c : Int) == y) (fun s c => !((c : Int) == y)) (fun _ _ => True) (fun s c hc hcn hI => by
  unfold Aft Aqv
  dsimp only
  have hr := G.right c hc hcn
  rw [Bu (by rw [AS]; omega), Bu (by rw [AS]; omega), APv]
  dsimp only
  rcases h : ((c : Int) == y) with _ | _
  ·rw [Bu (by simp), Ac8 hc, APv, A7 (by rw [AS]; omega), Bu (by simp)]
  ·rw [A7 (by simp), A7 (by simp)]) (fun _ _ _ _ _ => trivial) (fun s c hc => by
  unfold Aft
  dsimp only
  rw [A7 (by rw [AS]; omega)]) (c.toNat + 1) c false (by omega) hc hc trivial
 unfold Aqg Alo
 rw [key, APv]
 simp only [APv]
 rw [A8f G]
 split
 ·rename_i h; rw [h]; rfl
 ·rfl
theorem A4i (l : List BV) (c : Int) (y : Nat) : ((Agi l c).any fun x => (x : Int) == (y : Int)) = decide (y ∈ Agi l c) := by
 rw [AQe, List.any_eq_true, AS]
 constructor
 ·rintro ⟨x, hx, h⟩
  rw [JY] at h
  rw [← Int.ofNat_inj.1 h]; exact hx
 ·intro h; exact ⟨y, h, by simp⟩
theorem AD8 {a b : UInt8} : ((a.toNat : Int) == (b.toNat : Int)) = decide (a = b) := by
 rw [AQe, JY, AS]
 constructor
 ·intro h; exact UInt8.toNat_inj.1 (by omega)
 ·rintro rfl; rfl
theorem le_iff {l : List BV} {a b : UInt8} (ha : tv l a = true) (hb : tv l b = true) : Le l a b ↔ (a = b ∨ b.toNat = 0 ∨ (a.toNat = 3 ∧ rf b = true) ∨ (rf a = true ∧ b.toNat = 5) ∨ (16 ≤ a.toNat ∧ 16 ≤ b.toNat ∧ (b.toNat - 16) ∈ Agi l ((a.toNat - 16 : Nat) : Int))) := by
 unfold Le
 rw [ha, hb]; simp
theorem Aq7 (t : UInt8) : rf t = true ↔ (t.toNat = 3 ∨ t.toNat = 4 ∨ t.toNat = 5 ∨ 16 ≤ t.toNat) := by unfold rf; simp
theorem A60 (l : List BV) (G : Good l) (a b : UInt8) : Aq9 l a b = some (decide (Le l a b)) := by
 unfold Aq9
 rw [Apw, APv]
 rcases ha : tv l a with _ | _
 ·rw [Bu (by simp), decide_eq_false (by unfold Le; rw [ha]; simp)]
 rw [A7 (by simp), Apw, APv]
 rcases hb : tv l b with _ | _
 ·rw [Bu (by simp), decide_eq_false (by unfold Le; rw [hb]; simp)]
 rw [A7 (by simp), AD8, Avv, Avv, Atc, Atc]
 have hle := le_iff ha hb
 have hra := Aq7 a
 have hrb := Aq7 b
 simp only [APv]
 by_cases h1 : a = b
 ·rw [Bu (by simpa using h1), decide_eq_true (hle.2 (Or.inl h1))]
 rw [A7 (by simpa using h1)]
 by_cases h2 : b.toNat = 0
 ·rw [Bu (by rw [JY]; omega), decide_eq_true (hle.2 (Or.inr (Or.inl h2)))]
 rw [A7 (by rw [JY]; omega)]
 by_cases h3 : a.toNat = 3
 ·have hra' : rf a = true := hra.2 (Or.inl h3)
  rw [Bu (by rw [JY]; omega), Bu hra']
  congr 1
  rcases hr : rf b with _ | _
  ·symm; apply decide_eq_false
   intro hl
   have hn : ¬ (b.toNat = 3 ∨ b.toNat = 4 ∨ b.toNat = 5 ∨ 16 ≤ b.toNat) := fun h => by rw [hrb.2 h] at hr; cases hr
   rcases hle.1 hl with h | h | h | h | h
   ·exact h1 h
   ·exact h2 h
   ·rw [hr] at h; exact absurd h.2 (by simp)
   ·omega
   ·omega
  ·rw [decide_eq_true (hle.2 (Or.inr (Or.inr (Or.inl ⟨h3, hr⟩))))]
 rw [A7 (by rw [JY]; omega)]
 by_cases h5 : b.toNat = 5
 ·have hrb' : rf b = true := hrb.2 (Or.inr (Or.inr (Or.inl h5)))
  rw [Bu (by rw [JY]; omega)]
  rcases hr : rf a with _ | _
  ·rw [A7 (by simp)]
   congr 1; symm; apply decide_eq_false
   intro hl
   rcases hle.1 hl with h | h | h | h | h
   ·exact h1 h
   ·exact h2 h
   ·exact h3 h.1
   ·rw [hr] at h; exact absurd h.1 (by simp)
   ·omega
  ·rw [Bu rfl, hrb', decide_eq_true (hle.2 (Or.inr (Or.inr (Or.inr (Or.inl ⟨hr, h5⟩)))))]
 rw [A7 (by rw [JY]; omega)]
 by_cases ha16 : 16 ≤ a.toNat
 ·obtain ⟨e1, e2⟩ := Ass ha ha16
  rw [e1, Bu (by rw [AS]; omega)]
  by_cases hb16 : 16 ≤ b.toNat
  ·obtain ⟨e3, e4⟩ := Ass hb hb16
   rw [e3, Bu (by rw [AS]; omega), A74 l G _ (by omega), A4i, APv]
   congr 1
   rw [decide_eq_decide]
   constructor
   ·intro h; exact hle.2 (Or.inr (Or.inr (Or.inr (Or.inr ⟨ha16, hb16, h⟩))))
   ·intro hl
    rcases hle.1 hl with h | h | h | h | h
    ·exact absurd h h1
    ·exact absurd h h2
    ·exact absurd h.1 h3
    ·exact absurd h.2 h5
    ·exact h.2.2
  ·rw [A6e hb16, A7 (by rw [AS]; omega)]
   congr 1; symm; apply decide_eq_false
   intro hl
   rcases hle.1 hl with h | h | h | h | h
   ·exact h1 h
   ·exact h2 h
   ·exact h3 h.1
   ·exact h5 h.2
   ·exact hb16 h.2.1
 ·rw [A6e ha16, A7 (by rw [AS]; omega)]
  congr 1; symm; apply decide_eq_false
  intro hl
  rcases hle.1 hl with h | h | h | h | h
  ·exact h1 h
  ·exact h2 h
  ·exact h3 h.1
  ·exact h5 h.2
  ·exact ha16 h.1
end Go.Proofs.YtfcpkcehecmcpaaGreat
namespace Go.Proofs.YtfcpkcehecmcpaaGreat
open Go Go.RowKit Go.Pv
theorem A27 (l : List BV) (G : Good l) (a b : UInt8) : Ai6 l a b = some (decide (Le l a b)) := by
 have hbig : l.length ≤ 1048576 := G.tab.1
 unfold Ai6
 rw [Arn, APv]
 rcases ha : tv l a with _ | _
 ·rw [Bu (by simp), decide_eq_false (by unfold Le; rw [ha]; simp)]
 rw [A7 (by simp), Arn, APv]
 rcases hb : tv l b with _ | _
 ·rw [Bu (by simp), decide_eq_false (by unfold Le; rw [hb]; simp)]
 rw [A7 (by simp), AD8, A1d, A1d]
 have hle := le_iff ha hb
 have hra := Aq7 a
 have hrb := Aq7 b
 simp only [APv]
 by_cases h1 : a = b
 ·rw [Bu (by simpa using h1), decide_eq_true (hle.2 (Or.inl h1)), APv]
 rw [A7 (by simpa using h1)]
 by_cases h2 : b.toNat = 0
 ·rw [Bu (by rw [JY]; omega), decide_eq_true (hle.2 (Or.inr (Or.inl h2))), APv]
 rw [A7 (by rw [JY]; omega)]
 -- a null, or any
 by_cases h3 : a.toNat = 3 ∧ rf b = true
 ·rw [Bu (by rw [JY]; omega), Bu h3.2, decide_eq_true (hle.2 (Or.inr (Or.inr (Or.inl h3)))), APv]
 by_cases h5 : rf a = true ∧ b.toNat = 5
 ·have hrb' : rf b = true := hrb.2 (Or.inr (Or.inr (Or.inl h5.2)))
  rw [decide_eq_true (hle.2 (Or.inr (Or.inr (Or.inr (Or.inl h5))))), hrb', h5.1]
  rw [show ((b.toNat : Int) == 5) = true by rw [JY]; omega]
  rcases ((a.toNat : Int) == 3) with _ | _ <;> rfl
 have e : (if ((a.toNat : Int) == 3) = true then (if rf b = true then some (.inl true) else if rf a = true then (if ((b.toNat : Int) == 5) = true then some (.inl true) else some (.inr ())) else some (.inr ())) else
   if rf a = true then (if ((b.toNat : Int) == 5) = true then some (.inl true) else some (.inr ())) else some (.inr ()) : Option (Bool ⊕ Unit)) = some (.inr ()) := by
  have e5 : ((b.toNat : Int) == 5) = decide (b.toNat = 5) := Adu _ 5
  have e3 : ((a.toNat : Int) == 3) = decide (a.toNat = 3) := Adu _ 3
  rw [e5, e3]
  by_cases q3 : a.toNat = 3
  ·have hnb : rf b ≠ true := fun h => h3 ⟨q3, h⟩
   rw [Bu (by simpa using q3), A7 hnb]
   by_cases q5 : rf a = true
   ·rw [Bu q5, A7 (by simpa using fun h => h5 ⟨q5, h⟩)]
   ·rw [A7 q5]
  ·rw [A7 (by simpa using q3)]
   by_cases q5 : rf a = true
   ·rw [Bu q5, A7 (by simpa using fun h => h5 ⟨q5, h⟩)]
   ·rw [A7 q5]
 rw [e, APv]
 dsimp only
 have hfin : Le l a b ↔ (16 ≤ a.toNat ∧ 16 ≤ b.toNat ∧ (b.toNat - 16) ∈ Agi l ((a.toNat - 16 : Nat) : Int)) := by
  rw [hle]
  constructor
  ·rintro (h | h | h | h | h)
   ·exact absurd h h1
   ·exact absurd h h2
   ·exact absurd h h3
   ·exact absurd h h5
   ·exact h
  ·exact fun h => Or.inr (Or.inr (Or.inr (Or.inr h)))
 by_cases ha16 : 16 ≤ a.toNat
 ·rw [A7 (by rw [AS]; omega)]
  by_cases hb16 : 16 ≤ b.toNat
  ·have hal := (Ass ha ha16).2
   rw [A7 (by rw [AS]; omega), Awj a ha16, AAr l G.right (by omega) _ (by omega) (by omega), APv]
   have hlen := Axe G.right ((a.toNat - 16 : Nat) + 1) ((a.toNat - 16 : Nat) : Int) (by omega) (by omega) (by omega)
   have hl := AA7 ((Agi l ((a.toNat - 16 : Nat) : Int)).map fun (c : Nat) => (c : Int)) (fun x => x == ((b.toNat - 16 : Nat) : Int)) (body := Aih b ((Agi l ((a.toNat - 16 : Nat) : Int)).map fun (c : Nat) => (c : Int))) (fun i hi => by
    unfold Aih
    have hi' := hi
    rw [AP0] at hi'
    rw [Bu (by rw [AS]; omega), Ac8 hi, APv, Awj b hb16, wr1 (by omega)]) (by
    unfold Aih
    rw [A7 (by rw [AS]; omega)])
   refine Eq.trans hl ?_
   congr 1
   rw [List.any_map]
   refine Eq.trans (A4i l _ _) ?_
   rw [decide_eq_decide, hfin]
   exact ⟨fun h => ⟨ha16, hb16, h⟩, fun h => h.2.2⟩
  ·rw [Bu (by rw [AS]; omega), decide_eq_false (fun h => hb16 (hfin.1 h).2.1)]
 ·rw [Bu (by rw [AS]; omega), decide_eq_false (fun h => ha16 (hfin.1 h).1)]
end Go.Proofs.YtfcpkcehecmcpaaGreat
namespace Go.Proofs.YtfcpkcehecmcpaaGreat
open Go Go.RowKit Go.Pv
theorem A9w {l : List BV} {n : Nat} (R : Aia l n) : ∀ (k : Nat) (c : Int), c < k → c < n → c < l.length → ∀ x ∈ Agi l c, ∀ y ∈ Agi l (x : Int), y ∈ Agi l c
 | 0, c, hk, hn, hl, x, hx, y, hy => by rw [Amn (by omega)] at hx; cases hx
 | k + 1, c, hk, hn, hl, x, hx, y, hy => by
  by_cases h0 : 0 ≤ c
  ·obtain ⟨c, rfl⟩ := AQc h0
   rw [Apz R c (by omega) (by omega)] at hx ⊢
   have hr := R c (by omega) (by omega)
   rcases List.mem_cons.1 hx with rfl | hx
   ·rw [← Apz R x (by omega) (by omega)]; exact hy
   ·exact List.mem_cons_of_mem _ (A9w R k l[c].Ace (by omega) (by omega) (by omega) x hx y hy)
  ·rw [Amn (by omega)] at hx; cases hx
theorem Le.refl {l : List BV} {a : UInt8} (h : tv l a = true) : Le l a a := ⟨h, h, Or.inl rfl⟩
theorem Le.top {l : List BV} {a b : UInt8} (h : tv l a = true) (hb : b.toNat = 0) : Le l a b := ⟨h, by unfold tv; simp [hb], Or.inr (Or.inl hb)⟩
theorem Le.antisymm {l : List BV} (G : Good l) {a b : UInt8} (h : Le l a b) (h' : Le l b a) : a = b := by
 have hra := Aq7 a
 have hrb := Aq7 b
 obtain ⟨ha, hb, h⟩ := h
 obtain ⟨_, _, h'⟩ := h'
 have key : a.toNat = b.toNat → a = b := fun e => UInt8.toNat_inj.1 e
 rcases h with h | h | h | h | h
 ·exact h
 ·rcases h' with q | q | q | q | q
  ·exact q.symm
  ·exact key (by omega)
  ·omega
  ·have := hrb.1 q.1; omega
  ·omega
 ·have h2 := hrb.1 h.2
  rcases h' with q | q | q | q | q
  ·exact q.symm
  ·omega
  ·exact key (by omega)
  ·omega
  ·omega
 ·have h2 := hra.1 h.1
  rcases h' with q | q | q | q | q
  ·exact q.symm
  ·omega
  ·omega
  ·exact key (by omega)
  ·omega
 ·rcases h' with q | q | q | q | q
  ·exact q.symm
  ·omega
  ·omega
  ·omega
  ·have e1 := (Ass ha h.1).2
   have e2 := (Ass hb h.2.1).2
   have h1 := (Ath G.right (a.toNat + 1) ((a.toNat - 16 : Nat) : Int) (by omega) (by omega) (by omega) _ h.2.2).1
   have h2 := (Ath G.right (b.toNat + 1) ((b.toNat - 16 : Nat) : Int) (by omega) (by omega) (by omega) _ q.2.2).1
   exact key (by omega)
structure Lub (l : List BV) (a b m : UInt8) : Prop where
 left : Le l a m
 right : Le l b m
 least : ∀ t, Le l a t → Le l b t → Le l m t
def Av1 (l : List BV) (a b : UInt8) : List UInt8 → UInt8 → UInt8
 | [], s => s
 | t :: r, s => Av1 l a b r (if Le l a t ∧ Le l b t ∧ Le l t s then t else s)
theorem A40 {l : List BV} (G : Good l) {a b m : UInt8} (h : Lub l a b m) : ∀ (L : List UInt8) (s : UInt8), Le l a s → Le l b s → (s = m ∨ m ∈ L) → Av1 l a b L s = m
 | [], s, _, _, hm => by
  rcases hm with h | h
  ·exact h
  ·cases h
 | t :: r, s, ha, hb, hm => by
  unfold Av1
  by_cases hc : Le l a t ∧ Le l b t ∧ Le l t s
  ·rw [Bu hc]
   refine A40 G h r t hc.1 hc.2.1 ?_
   rcases hm with rfl | hm
   ·exact Or.inl (Le.antisymm G hc.2.2 (h.least _ hc.1 hc.2.1))
   ·rcases List.mem_cons.1 hm with rfl | hm
    ·exact Or.inl rfl
    ·exact Or.inr hm
  ·rw [A7 hc]
   refine A40 G h r s ha hb ?_
   rcases hm with hm | hm
   ·exact Or.inl hm
   ·rcases List.mem_cons.1 hm with rfl | hm
    ·exact absurd ⟨h.left, h.right, h.least _ ha hb⟩ hc
    ·exact Or.inr hm
theorem A8p {l : List BV} {a b : UInt8} (h : tv l a = false ∨ tv l b = false) : ∀ (L : List UInt8) (s : UInt8), Av1 l a b L s = s
 | [], s => rfl
 | t :: r, s => by
  unfold Av1
  rw [A7, A8p h r s]
  rintro ⟨h1, h2, _⟩
  rcases h with h | h
  ·rw [h1.1] at h; cases h
  ·rw [h2.1] at h; cases h
end Go.Proofs.YtfcpkcehecmcpaaGreat
namespace Go.Proofs.YtfcpkcehecmcpaaGreat
open Go Go.RowKit Go.Pv
def cty (c : Nat) : UInt8 := Aiq (16 + (c : Int))
theorem A2r {c : Nat} (h : c ≤ 32) : (cty c).toNat = 16 + c := by
 unfold cty
 have := A3a (n := 16 + c) (by omega)
 rw [← this]; congr 2
def meet (L M : List Nat) : UInt8 := match L.find? (fun c => decide (c ∈ M)) with
 | some c => cty c
 | none => 5
theorem A71 (M : List Nat) : ∀ (L : List Nat), (∀ c ∈ L, c < 32) → Aye (fun s c => if c ∈ M then cty c else s) (fun s c => !decide (c ∈ M)) L (5 : UInt8) = meet L M
 | [], _ => rfl
 | c :: r, h => by
  rw [Aye]
  unfold meet
  rw [List.find?_cons]
  by_cases hc : c ∈ M
  ·rw [A7 (by simp [hc]), Bu hc, decide_eq_true hc]
  ·rw [Bu (by simp [hc]), A7 hc, decide_eq_false hc]
   exact A71 M r fun x hx => h x (by simp [hx])
theorem ADz (l : List BV) (G : Good l) (x y : Int) (hx : x < l.length) (hy : y < l.length) : Ajy l x l y 5 = some (meet (Agi l x) (Agi l y)) := by
 have hfew := G.few
 have key := Avo G.right (body := Afv l l y) (fun s c => if c ∈ Agi l y then cty c else s) (fun s c => !decide (c ∈ Agi l y)) (fun _ _ => True) (fun s c hc hcn hI => by
  unfold Afv Aqr
  dsimp only
  have hr := G.right c hc hcn
  rw [Bu (by rw [AS]; omega), Bu (by rw [AS]; omega), A74 l G y hy, APv, A4i]
  by_cases hm : c ∈ Agi l y
  ·rw [decide_eq_true hm, Bu rfl, APv, A7 (by simp), A7 (by simp), Bu hm, show (Aiq (c : Int)).toNat = c from A3a (by omega)]
   rfl
  ·rw [decide_eq_false hm, A7 (by simp), APv, Bu rfl, Ac8 hc, APv, A7 (by rw [AS]; omega), Bu (by simp), A7 hm]) (fun _ _ _ _ _ => trivial) (fun s c hc => by
  unfold Afv
  dsimp only
  rw [A7 (by rw [AS]; omega)]) (x.toNat + 1) x 5 (by omega) hx hx trivial
 unfold Ajy
 rw [key, APv]
 simp only
 rw [A71 _ _ fun c hc => by have := (Ath G.right (x.toNat + 1) x (by omega) hx hx c hc).2; omega]
def Asp (l : List BV) (a b : UInt8) : UInt8 :=
 if tv l a = false ∨ tv l b = false then 0 else if Le l a b then b else if Le l b a then a else if rf a = false ∨ rf b = false then 0 else
 if 16 ≤ a.toNat ∧ 16 ≤ b.toNat then meet (Agi l ((a.toNat - 16 : Nat) : Int)) (Agi l ((b.toNat - 16 : Nat) : Int)) else 5
theorem AFl (l : List BV) (G : Good l) (a b : UInt8) : Ast l a b = some (Asp l a b) := by
 have hfew := G.few
 unfold Ast Asp
 rw [Apw, APv]
 rcases ha : tv l a with _ | _
 ·rw [Bu (by simp), Bu (Or.inl rfl)]
 rw [A7 (by simp), Apw, APv]
 rcases hb : tv l b with _ | _
 ·rw [Bu (by simp), Bu (Or.inr rfl)]
 rw [A7 (c := (!true) = true) (by simp), A7 (c := true = false ∨ true = false) (by simp), A60 l G, APv]
 by_cases h1 : Le l a b
 ·rw [Bu (by simpa using h1), Bu h1]
 rw [A7 (by simpa using h1), A7 h1, A60 l G, APv]
 by_cases h2 : Le l b a
 ·rw [Bu (by simpa using h2), Bu h2]
 rw [A7 (by simpa using h2), A7 h2, Avv, APv]
 rcases ra : rf a with _ | _
 ·rw [Bu (by simp), Bu (Or.inl rfl)]
 rw [A7 (c := (!true) = true) (by simp), Avv, APv]
 rcases rb : rf b with _ | _
 ·rw [Bu (by simp), Bu (Or.inr rfl)]
 rw [A7 (c := (!true) = true) (by simp), A7 (c := true = false ∨ true = false) (by simp), Atc, APv, Atc, APv]
 by_cases h3 : 16 ≤ a.toNat
 ·obtain ⟨e1, e2⟩ := Ass ha h3
  rw [e1, Bu (by rw [AS]; omega)]
  by_cases h4 : 16 ≤ b.toNat
  ·obtain ⟨e3, e4⟩ := Ass hb h4
   rw [e3, Bu (by rw [AS]; omega), Bu ⟨h3, h4⟩, ADz l G _ _ (by omega) (by omega), APv]
  ·rw [A6e h4, A7 (by rw [AS]; omega), A7 (by omega)]
 ·rw [A6e h3, A7 (by rw [AS]; omega), A7 (by omega)]
end Go.Proofs.YtfcpkcehecmcpaaGreat
namespace Go.Proofs.YtfcpkcehecmcpaaGreat
open Go Go.RowKit Go.Pv
theorem A36 {l : List BV} {n : Nat} (R : Aia l n) : ∀ (k : Nat) (c : Int) (us bs : List Nat) (x : Nat), c < k → c < n → c < l.length → Agi l c = us ++ x :: bs → Agi l (x : Int) = x :: bs
 | 0, c, us, bs, x, hk, hn, hl, h => by rw [Amn (by omega)] at h; simp at h
 | k + 1, c, us, bs, x, hk, hn, hl, h => by
  by_cases h0 : 0 ≤ c
  ·obtain ⟨c, rfl⟩ := AQc h0
   have hr := R c (by omega) (by omega)
   have hc := Apz R c (by omega) (by omega)
   cases us with
   | nil =>
    rw [AP6] at h
    have : c = x := by rw [hc] at h; injection h
    rw [← this] at h ⊢
    exact h
   | cons a us =>
    rw [hc, List.cons_append] at h
    injection h with _ h
    exact A36 R k l[c].Ace us bs x (by omega) (by omega) (by omega) h
  ·rw [Amn (by omega)] at h; simp at h
theorem AGf {l : List BV} {c : Nat} (h : c < l.length) (h32 : c ≤ 32) : tv l (cty c) = true := by
 unfold tv
 rw [A2r h32]
 simp
 omega
theorem tv5 (l : List BV) : tv l 5 = true := by unfold tv; rfl
theorem le5 {l : List BV} {a : UInt8} (h : tv l a = true) (hr : rf a = true) : Le l a 5 := ⟨h, tv5 l, Or.inr (Or.inr (Or.inr (Or.inl ⟨hr, rfl⟩)))⟩
theorem A8j (l : List BV) (G : Good l) {a b : UInt8} (ha : tv l a = true) (hb : tv l b = true) : Lub l a b (Asp l a b) := by
 have hfew := G.few
 have hra := Aq7 a
 have hrb := Aq7 b
 unfold Asp
 rw [A7 (by rw [ha, hb]; simp)]
 by_cases h1 : Le l a b
 ·rw [Bu h1]; exact ⟨h1, Le.refl hb, fun t _ h => h⟩
 rw [A7 h1]
 by_cases h2 : Le l b a
 ·rw [Bu h2]; exact ⟨Le.refl ha, h2, fun t h _ => h⟩
 rw [A7 h2]
 have t0 : tv l 0 = true := by unfold tv; rfl
 by_cases h3 : rf a = false ∨ rf b = false
 ·rw [Bu h3]
  refine ⟨Le.top ha rfl, Le.top hb rfl, fun t hat hbt => Le.top t0 ?_⟩
  rcases h3 with h3 | h3
  ·have hn : ¬ (a.toNat = 3 ∨ a.toNat = 4 ∨ a.toNat = 5 ∨ 16 ≤ a.toNat) := fun h => by rw [hra.2 h] at h3; cases h3
   rcases hat.2.2 with q | q | q | q | q
   ·rw [← q] at hbt; exact absurd hbt h2
   ·exact q
   ·omega
   ·rw [h3] at q; cases q.1
   ·omega
  ·have hn : ¬ (b.toNat = 3 ∨ b.toNat = 4 ∨ b.toNat = 5 ∨ 16 ≤ b.toNat) := fun h => by rw [hrb.2 h] at h3; cases h3
   rcases hbt.2.2 with q | q | q | q | q
   ·rw [← q] at hat; exact absurd hat h1
   ·exact q
   ·omega
   ·rw [h3] at q; cases q.1
   ·omega
 rw [A7 h3]
 have ra : rf a = true := by rcases h : rf a with _ | _; exact absurd (Or.inl h) h3; rfl
 have rb : rf b = true := by rcases h : rf b with _ | _; exact absurd (Or.inr h) h3; rfl
 have na3 : a.toNat ≠ 3 := fun h => h1 ⟨ha, hb, Or.inr (Or.inr (Or.inl ⟨h, rb⟩))⟩
 have nb3 : b.toNat ≠ 3 := fun h => h2 ⟨hb, ha, Or.inr (Or.inr (Or.inl ⟨h, ra⟩))⟩
 have na5 : a.toNat ≠ 5 := fun h => h2 ⟨hb, ha, Or.inr (Or.inr (Or.inr (Or.inl ⟨rb, h⟩)))⟩
 have nb5 : b.toNat ≠ 5 := fun h => h1 ⟨ha, hb, Or.inr (Or.inr (Or.inr (Or.inl ⟨ra, h⟩)))⟩
 have hra' := hra.1 ra
 have hrb' := hrb.1 rb
 -- what both are of
 have ub : ∀ t, Le l a t → Le l b t → t.toNat = 0 ∨ t.toNat = 5 ∨ (16 ≤ a.toNat ∧ 16 ≤ b.toNat ∧ 16 ≤ t.toNat ∧ (t.toNat - 16) ∈ Agi l ((a.toNat - 16 : Nat) : Int) ∧ (t.toNat - 16) ∈ Agi l ((b.toNat - 16 : Nat) : Int)) := by
  intro t hat hbt
  rcases hat.2.2 with q | q | q | q | q
  ·rw [← q] at hbt; exact absurd hbt h2
  ·exact Or.inl q
  ·exact absurd q.1 na3
  ·exact Or.inr (Or.inl q.2)
  ·rcases hbt.2.2 with p | p | p | p | p
   ·rw [← p] at hat; exact absurd hat h1
   ·exact Or.inl p
   ·exact absurd p.1 nb3
   ·exact Or.inr (Or.inl p.2)
   ·exact Or.inr (Or.inr ⟨q.1, p.1, q.2.1, q.2.2, p.2.2⟩)
 have l5 : ∀ t : UInt8, t.toNat = 5 → t = 5 := fun t h => UInt8.toNat_inj.1 h
 by_cases h16 : 16 ≤ a.toNat ∧ 16 ≤ b.toNat
 ·rw [Bu h16]
  have e2 := (Ass ha h16.1).2
  have e4 := (Ass hb h16.2).2
  unfold meet
  rcases hf : (Agi l ((a.toNat - 16 : Nat) : Int)).find? (fun c => decide (c ∈ Agi l ((b.toNat - 16 : Nat) : Int))) with _ | c
  ·refine ⟨le5 ha ra, le5 hb rb, fun t hat hbt => ?_⟩
   rcases ub t hat hbt with q | q | q
   ·exact Le.top (tv5 l) q
   ·rw [l5 t q]; exact Le.refl (tv5 l)
   ·have := (List.find?_eq_none.1 hf) _ q.2.2.2.1
    exact absurd (decide_eq_true q.2.2.2.2) this
  ·obtain ⟨hc, us, bs, hl, hn⟩ := List.find?_eq_some_iff_append.1 hf
   have hcM := of_decide_eq_true hc
   have hcL : c ∈ Agi l ((a.toNat - 16 : Nat) : Int) := by rw [hl]; simp
   have hcl := (Ath G.right (a.toNat + 1) _ (by omega) (by omega) (by omega) c hcL).2
   have htv := AGf hcl (by omega)
   have hn16 := A2r (c := c) (by omega)
   show Lub l a b (cty c)
   have hsuf := A36 G.right (a.toNat + 1) _ us bs c (by omega) (by omega) (by omega) hl
   refine ⟨⟨ha, htv, Or.inr (Or.inr (Or.inr (Or.inr ⟨h16.1, by omega, by rw [hn16, Nat.add_sub_cancel_left]; exact hcL⟩)))⟩, ⟨hb, htv, Or.inr (Or.inr (Or.inr (Or.inr ⟨h16.2, by omega, by rw [hn16, Nat.add_sub_cancel_left]; exact hcM⟩)))⟩, fun t hat hbt => ?_⟩
   rcases ub t hat hbt with q | q | q
   ·exact Le.top htv q
   ·rw [l5 t q]; exact le5 htv ((Aq7 _).2 (by omega))
   ·refine ⟨htv, hat.2.1, Or.inr (Or.inr (Or.inr (Or.inr ⟨by omega, q.2.2.1, ?_⟩)))⟩
    rw [hn16, Nat.add_sub_cancel_left, hsuf]
    have hm := q.2.2.2.1
    rw [hl] at hm
    rcases List.mem_append.1 hm with hm | hm
    ·have := hn _ hm
     rw [decide_eq_true q.2.2.2.2] at this
     cases this
    ·exact hm
 ·rw [A7 h16]
  refine ⟨le5 ha ra, le5 hb rb, fun t hat hbt => ?_⟩
  rcases ub t hat hbt with q | q | q
  ·exact Le.top (tv5 l) q
  ·rw [l5 t q]; exact Le.refl (tv5 l)
  ·exact absurd ⟨q.1, q.2.1⟩ h16
end Go.Proofs.YtfcpkcehecmcpaaGreat
namespace Go.Proofs.YtfcpkcehecmcpaaGreat
open Go Go.RowKit Go.Pv
def Arm (l : List BV) : List UInt8 := ((List.range 256).filter fun (i : Nat) => tv l (Aiq (i : Int))).map fun (i : Nat) => Aiq (i : Int)
theorem ALj (l : List BV) : Ann l = some (Arm l) := by
 have := Akf 256 (body := Aij l) (fun n => (((List.range n).filter fun (i : Nat) => tv l (Aiq (i : Int))).map fun (i : Nat) => Aiq (i : Int), (n : Int))) (r := Arm l) (fun i hi => by
  unfold Aij
  have hlen : ((List.range i).filter fun (i : Nat) => tv l (Aiq (i : Int))).length ≤ i := by
   have := AP8 (fun (i : Nat) => tv l (Aiq (i : Int))) (List.range i)
   rw [List.length_range] at this
   exact this
  dsimp only
  rw [Bu (by rw [AS]; omega), Arn, APv, List.range_succ, List.filter_append, List.map_append, wr1 (by omega)]
  rcases ht : tv l (Aiq (i : Int)) with _ | _
  ·rw [A7 (by simp), List.filter_cons, ht]
   simp
  ·rw [Bu rfl, Ae6 (by simp only [AP0, AP1]; omega), APv, List.filter_cons, ht]
   simp) (by
  unfold Aij
  dsimp only
  rw [A7 (by rw [AS]; omega)]
  rfl) (s0 := ([], 0)) rfl
 unfold Ann
 rw [this, APv]
theorem A77 (l : List BV) (a b : UInt8) (t : UInt8) : ∀ (L : List UInt8) (s : UInt8), Av1 l a b (L ++ [t]) s = if Le l a t ∧ Le l b t ∧ Le l t (Av1 l a b L s) then t else Av1 l a b L s
 | [], s => rfl
 | x :: L, s => by
  rw [List.cons_append, Av1, A77 l a b t L]
  rfl
theorem AJk {l : List BV} {t : UInt8} (h : tv l t = true) : t ∈ Arm l := by
 unfold Arm
 have e : Aiq (t.toNat : Int) = t := UInt8.toNat_inj.1 (A3a t.toNat_lt)
 refine List.mem_map.2 ⟨t.toNat, List.mem_filter.2 ⟨List.mem_range.2 t.toNat_lt, ?_⟩, e⟩
 rw [e]; exact h
theorem AE2 (l : List BV) (G : Good l) (a b : UInt8) : Al2 l a b = some (Asp l a b) := by
 have hlen : (Arm l).length ≤ 256 := by
  unfold Arm
  rw [AP0]
  have := AP8 (fun (i : Nat) => tv l (Aiq (i : Int))) (List.range 256)
  rw [List.length_range] at this
  exact this
 have hl := Akf (Arm l).length (body := Aha l a b (Arm l)) (fun i => (Av1 l a b ((Arm l).take i) 0, (i : Int))) (r := Av1 l a b (Arm l) 0) (fun i hi => by
  unfold Aha
  dsimp only
  rw [Bu (by rw [AS]; omega), Ac8 hi, APv, A27 l G, APv, A27 l G, A27 l G, wr1 (by omega),
   show (Arm l).take (i + 1) = (Arm l).take i ++ [(Arm l)[i]] by rw [List.take_add_one, APy hi]; rfl, A77]
  by_cases h1 : Le l a (Arm l)[i]
  ·rw [Bu (by simpa using h1), APv]
   by_cases h2 : Le l b (Arm l)[i]
   ·rw [Bu (by simpa using h2), APv]
    by_cases h3 : Le l (Arm l)[i] (Av1 l a b ((Arm l).take i) 0)
    ·rw [Bu (by simpa using h3), Bu ⟨h1, h2, h3⟩]
    ·rw [A7 (by simpa using h3), A7 (fun h => h3 h.2.2)]
   ·rw [A7 (by simpa using h2), A7 (fun h => h2 h.2.1)]
  ·rw [A7 (by simpa using h1), A7 (fun h => h1 h.1)]) (by
  unfold Aha
  dsimp only
  rw [A7 (by rw [AS]; omega), AQa]) (s0 := (0, 0)) rfl
 unfold Al2
 rw [ALj, APv, hl, APv]
 congr 1
 by_cases h : tv l a = false ∨ tv l b = false
 ·rw [A8p h]
  unfold Asp
  rw [Bu h]
 ·have ha : tv l a = true := by rcases q : tv l a with _ | _; exact absurd (Or.inl q) h; rfl
  have hb : tv l b = true := by rcases q : tv l b with _ | _; exact absurd (Or.inr q) h; rfl
  have hm := A8j l G ha hb
  exact A40 G hm _ _ (Le.top ha rfl) (Le.top hb rfl) (Or.inr (AJk hm.left.2.1))
end Go.Proofs.YtfcpkcehecmcpaaGreat
namespace Go.Proofs.YtfcpkcehecmcpaaGreat
open Go Go.RowKit Go.Pv
theorem AJg (e : GG) (x : Aa6) : Aju e x = Af7 e x := by
 funext s
 unfold Aju Af7
 simp only [A0s, Ava, APv]
theorem AI4 (e : GG) : Ajq e = Af8 e := by
 funext s
 unfold Ajq Af8
 simp only [A0s, Ava, APv, AJg]
theorem ALy (e : GG) (h : Alb e.Classes) : Ang e = Aj8 e := by
 unfold Ang Aj8
 rw [A8e _ h, Avy _ h, AI4]
theorem AFw (l : List BV) (ps : List UInt8) : Amd l ps = Afn l ps := by
 funext s
 unfold Amd Afn
 by_cases h : decide (s.2 < (ps.length : Int)) = true
 ·rw [Bu h, Bu h]
  rcases idx ps s.2 with _ | t
  ·rfl
  ·simp only [APv, Apw, A35]
   have e0 : ((t.toNat : Int) == 0) = decide (t.toNat = 0) := Adu _ 0
   have e3 : ((t.toNat : Int) == 3) = decide (t.toNat = 3) := Adu _ 3
   rw [e0, e3]
   unfold st
   rcases tv l t with _ | _
   ·simp
   ·by_cases h0 : t.toNat = 0
    ·simp [h0]
    ·by_cases h3 : t.toNat = 3
     ·simp [h3]
     ·simp [h0, h3]
 ·rw [A7 h, A7 h]
theorem start_eq (l : List BV) (ps : List UInt8) (n : Int) : Apb l ps n = Ags l ps n := by
 unfold Apb Ags Auk Alu
 rw [AFw]
def Az7 (l : List BV) (s : Aa6) : Bool := s.Abs.all (st l) && (decide (s.Result.toNat = 0) || st l s.Result)
theorem Az6 (l : List BV) (s : Aa6) (h : s.Abs.length ≤ 8) : Ale l s = some (Az7 l s) := by
 unfold Ale Az7
 have hl := Ak7 (R := Bool ⊕ Unit) s.Abs.length (body := Agv l s) (fun i => (Aqp s.Abs (fun t => !st l t) i).map fun _ => .inl false) (r0 := .inr ()) (fun i hi => by
  unfold Agv
  rw [Bu (by rw [AS]; omega), Ac8 hi, APv, Ayf, APv, wr1 (by omega), Atb hi]
  split <;> rfl) (by
  unfold Agv
  rw [A7 (by rw [AS]; omega)])
 rw [hl, APv, Aop]
 have hn := Axk s.Abs fun t => !st l t
 have e0 : ((s.Result.toNat : Int) == 0) = decide (s.Result.toNat = 0) := Adu _ 0
 rw [Ayf, APv, Bu (by rw [AS]; omega), e0]
 rcases hf : (List.range s.Abs.length).findSome? (Aqp s.Abs fun t => !st l t) with _ | r
 ·have ha : s.Abs.all (st l) = true := by
   have := hn.1 hf
   rw [List.all_eq_true]
   intro t ht
   rw [List.any_eq_false] at this
   simpa using this t ht
  rw [ha]
  by_cases h0 : s.Result.toNat = 0
  ·simp [h0]
  ·simp [h0]
 ·have ha : s.Abs.all (st l) = false := by
   rcases hb : s.Abs.all (st l) with _ | _
   ·rfl
   ·rw [List.all_eq_true] at hb
    have : (s.Abs.any fun t => !st l t) = false := by
     rw [List.any_eq_false]
     intro t ht; simp [hb t ht]
    rw [hn.2 this] at hf; cases hf
  rw [ha]; rfl
theorem AIr (e : GG) (ps : List UInt8) (h : ps.length ≤ 8) : Ad6 ps e = some (ps.any fun t => !st e.Classes t) := by
 unfold Ad6
 obtain ⟨r, h1, h2, _⟩ := Awl ps (fun t => !st e.Classes t) (body := Adn ps e) (fun i hi => by
  unfold Adn
  rw [Bu (by rw [AS]; omega), Ac8 hi, APv, AC4, APv, wr1 (by omega)]) (by
  unfold Adn
  rw [A7 (by rw [AS]; omega)])
 have h1' : Afj ps e = some r := h1
 rw [show (⟨e.Classes, e.OS, e.Fn⟩ : GG) = e from rfl, h1', APv, h2]
theorem ALf (e : GG) (hs : e.OS.length ≤ 64) : Ao6 e = Aep e := by
 funext s
 unfold Ao6 Aep
 by_cases h : decide (s < (e.OS.length : Int)) = true
 ·rw [Bu h, Bu h]
  rcases hx : idx e.OS s with _ | x
  ·rfl
  ·simp only [APv]
   by_cases h8 : decide ((x.Abs.length : Int) > 8) = true
   ·rw [Bu h8, Bu h8]
   ·rw [A7 h8, A7 h8]
    have h8' : x.Abs.length ≤ 8 := by rw [AS] at h8; omega
    rw [AIr _ _ h8', Az6 _ _ h8', APv, APv, AC4, APv]
    have e0 : ((x.Result.toNat : Int) != 0) = !decide (x.Result.toNat = 0) := by
     rw [show ((x.Result.toNat : Int) != 0) = !((x.Result.toNat : Int) == 0) from rfl]
     have : ((x.Result.toNat : Int) == 0) = decide (x.Result.toNat = 0) := Adu _ 0
     rw [this]
    rw [e0]
    unfold Az7
    dsimp only
    have ha : (x.Abs.any fun t => !st e.Classes t) = !(x.Abs.all (st e.Classes)) := by
     rw [AQe, List.any_eq_true, Bool.not_eq_true', List.all_eq_false]
     simp
    rw [ha]
    rcases x.Abs.all (st e.Classes) with _ | _
    ·simp
    ·rcases st e.Classes x.Result with _ | _ <;> by_cases h0 : x.Result.toNat = 0 <;> simp [h0]
 ·rw [A7 h, A7 h]
theorem AL6 (e : GG) (n : Int) (h : Alb e.Classes) : Ato e n = Ah1 e n := by
 unfold Ato Ah1
 rw [A8e _ h, Avy _ h, APv, APv]
 by_cases h1 : ((Asy e.Classes).2 != 0) = true
 ·rw [Bu h1, Bu h1]
 rw [A7 h1, A7 h1]
 by_cases h2 : decide ((e.OS.length : Int) > 64) = true
 ·rw [Bu h2, Bu h2]
 rw [A7 h2, A7 h2, ALf e (by rw [AS] at h2; omega)]
 simp only [start_eq]
end Go.Proofs.YtfcpkcehecmcpaaGreat
namespace Go.Proofs.YtfcpkcehecmcpaaGreat
open Go Go.RowKit Go.Pv
structure Af9 (e : GG) : Prop where
 ok : (Asy e.Classes).2 = 0
 good : Good e.Classes
 few : e.OS.length ≤ 64
 sigs : ∀ s ∈ e.OS, s.Abs.length ≤ 8 ∧ Az7 e.Classes s = true
 fn : 0 ≤ e.Fn ∧ e.Fn < e.OS.length
def A2v (e : GG) (i : Nat) : Option Int := match e.OS[i]? with
 | none => none
 | some s => if 8 < s.Abs.length then some 4 else if Az7 e.Classes s = false then some 22 else none
theorem AN2 (e : GG) (n : Int) (h : Alb e.Classes) (hm : Ah1 e n = some 0) : Af9 e ∧ ∃ s f, idx e.OS e.Fn = some s ∧ Ags e.Classes s.Abs n = some (f, 0) := by
 unfold Ah1 at hm
 rw [Avy _ h, APv] at hm
 by_cases h1 : ((Asy e.Classes).2 != 0) = true
 ·rw [Bu h1] at hm
  rw [Aas] at h1
  exact absurd (Option.some.inj hm) h1
 rw [A7 h1] at hm
 have hg := ALq h (by simpa using h1)
 by_cases h2 : decide ((e.OS.length : Int) > 64) = true
 ·rw [Bu h2] at hm; cases hm
 rw [A7 h2] at hm
 have h64 : e.OS.length ≤ 64 := by rw [AS] at h2; omega
 have hl := Ak7 (R := Int ⊕ Unit) e.OS.length (body := Aep e) (fun i => (A2v e i).map .inl) (r0 := .inr ()) (fun i hi => by
  unfold Aep A2v
  rw [Bu (by rw [AS]; omega), Ac8 hi, APv, APy hi, APv]
  dsimp only
  by_cases h8 : 8 < e.OS[i].Abs.length
  ·rw [Bu (by rw [AS]; omega), Bu h8]; rfl
  ·rw [A7 (by rw [AS]; omega), A7 h8, Az6 _ _ (by omega), APv, wr1 (by omega)]
   rcases Az7 e.Classes e.OS[i] with _ | _ <;> rfl) (by
  unfold Aep
  rw [A7 (by rw [AS]; omega)])
 rw [hl, APv, Aop, Az9] at hm
 rcases hf : (List.range e.OS.length).findSome? (A2v e) with _ | r
 ·rw [hf] at hm
  dsimp only at hm
  by_cases h3 : decide (e.Fn < 0) = true
  ·rw [Bu h3] at hm; cases hm
  rw [A7 h3] at hm
  by_cases h4 : decide (e.Fn ≥ (e.OS.length : Int)) = true
  ·rw [Bu h4] at hm; cases hm
  rw [A7 h4] at hm
  rw [AS] at h3 h4
  obtain ⟨s, hs, hm⟩ := bind_ok hm
  obtain ⟨f, hst, hm⟩ := bind_ok hm
  refine ⟨⟨by simpa using h1, hg, h64, fun s hs => ?_, by omega⟩, s, f.1, hs, ?_⟩
  ·obtain ⟨i, hi, rfl⟩ := List.mem_iff_getElem.1 hs
   have := (List.findSome?_eq_none_iff.1 hf) i (List.mem_range.2 hi)
   unfold A2v at this
   rw [APy hi] at this
   dsimp only at this
   split at this
   ·cases this
   ·split at this
    ·cases this
    ·rename_i q1 q2
     exact ⟨by omega, by simpa using q2⟩
  ·rw [hst]
   have := Option.some.inj hm
   rw [← this]
 ·rw [hf] at hm
  dsimp only at hm
  obtain ⟨i, hi, hr⟩ := List.exists_of_findSome?_eq_some hf
  unfold A2v at hr
  have := Option.some.inj hm
  subst this
  split at hr
  ·cases hr
  ·repeat' split at hr
   all_goals cases hr
end Go.Proofs.YtfcpkcehecmcpaaGreat
namespace Go.Proofs.YtfcpkcehecmcpaaGreat
open Go Go.RowKit Go.Pv
theorem A72 (e : GG) (s : Aa6) (h8 : s.Abs.length ≤ 8) (h : s.Abs.all (st e.Classes) = true) : Aa4 (Af7 e s) 0 = some (.inr ()) := by
 refine Aog s.Abs (fun i hi => ?_) ?_
 ·unfold Af7
  have ht := (List.all_eq_true.1 h) _ (AP5 hi)
  rw [Bu (by rw [AS]; omega), Ac8 hi, APv, Ava, APv, ht, A7 (by simp), wr1 (by omega)]
 ·unfold Af7
  rw [A7 (by rw [AS]; omega)]
theorem AC1 (e : GG) (h : Af9 e) : Aj8 e = some true := by
 unfold Aj8
 have hf := h.fn
 have hc := h.ok
 have h64 := h.few
 rw [Avy _ h.good.tab, APv, hc, A7 (by simp), A7 (by rw [AS]; omega), A7 (by rw [AS]; omega), A7 (by rw [AS]; omega)]
 have hl : Aa4 (Af8 e) 0 = some (.inr ()) := by
  refine Aog e.OS (fun i hi => ?_) ?_
  ·obtain ⟨h8, hs⟩ := h.sigs _ (AP5 hi)
   unfold Az7 at hs
   rw [AQd, AQf, AS] at hs
   unfold Af8
   rw [Bu (by rw [AS]; omega), Ac8 hi, APv, A7 (by rw [AS]; omega), Ava, APv]
   by_cases h0 : e.OS[i].Result.toNat = 0
   ·rw [A7 (by rw [Aas]; omega), APv]
    dsimp only
    rw [A72 e _ h8 hs.1, APv, wr1 (by omega)]
   ·have hr : st e.Classes e.OS[i].Result = true := by rcases hs.2 with q | q; exact absurd q h0; exact q
    rw [Bu (by rw [Aas]; omega), hr, A7 (by simp), APv]
    dsimp only
    rw [A72 e _ h8 hs.1, APv, wr1 (by omega)]
  ·unfold Af8
   rw [A7 (by rw [AS]; omega)]
 rw [hl]
 rfl
end Go.Proofs.YtfcpkcehecmcpaaGreat
