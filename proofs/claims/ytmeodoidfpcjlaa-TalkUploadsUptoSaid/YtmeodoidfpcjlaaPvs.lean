/- Rows taken out of a row; a row under two names, one of which grows. -/
import Derived.Test.YtmeodoidfpcjlaaPvp
set_option linter.unusedVariables false
set_option linter.unusedSimpArgs false
namespace Go.Pv
open Go Go.RowKit

/-- A loop that counts. -/
theorem wp_cnt {P : Program} {c : Code} {Q : Exit → Act → World → Prop} {a : Act} {w : World} (n : Nat) (I : Nat → Act → World → Prop) (h0 : I 0 a w)
    (round : ∀ i a w, i ≤ n → I i a w → c.wp P (Exit.then (fun a' w' => i < n ∧ I (i + 1) a' w') Q) a w) : (Code.loop c).wp P Q a w := by
  have hl : ∀ k i, i + k = n → loopO (fun s : Nat => if s < n then some (.inl (s + 1)) else some (.inr ())) i = some () := by
    intro k
    induction k with
    | zero => intro i hi; rw [loopO_eq, if_neg (by omega)]
    | succ k ih => intro i hi; rw [loopO_eq, if_pos (by omega)]; exact ih (i + 1) (by omega)
  refine wp_lp (S := Nat) (R := Unit) (fun s => if s < n then some (.inl (s + 1)) else some (.inr ())) (fun i a w => i ≤ n ∧ I i a w) (hl n 0 (by omega)) ⟨Nat.zero_le _, h0⟩ ?_
  rintro i a w ⟨hi, hI⟩ o ho _
  have := round i a w hi hI
  by_cases hlt : i < n
  · rw [if_pos hlt] at ho
    obtain rfl := some_ok ho
    refine wp_mono this fun e a' w' h => ?_
    cases e with
    | normal => exact ⟨i + 1, rfl, by have := h.1; omega, h.2⟩
    | _ => exact h
  · refine wp_mono this fun e a' w' h => ?_
    cases e with
    | normal => exact absurd h.1 hlt
    | _ => exact h

/-- Values of one cell. -/
abbrev V1 := {u : Value // u.oneCell' = true}
def Ty.val : Ty V1 := Ty.scalar (fun u => u.1) (fun u => u.2)
theorem Flat.val : Flat Ty.val (fun u => [u.1]) := Flat.scalar _ _

section
variable {α : Type} {T : Ty α} {enc : α → List Value} {w0 w w' : World} {F0 F G : List Nat} {ps : List Ck} {v u : Value} {l b g : List α}

/-- A row and the value that leads to it. -/
def Ty.tv (T : Ty α) : Ty (V1 × List α) where
  sz := 1
  rd w G x cs := cs = [x.1.1] ∧ slRd T w G x.1.1 x.2
  own w F x cs := cs = [x.1.1] ∧ slOwn T w F x.1.1 x.2
  rd_len h := by rw [h.1]; rfl
  rd_one {w G x cs} h u hu := by rw [h.1, List.mem_singleton] at hu; rw [hu]; exact x.1.2
  rd_loc h hk := ⟨h.1, h.2.loc hk⟩
  rd_mono h hk := ⟨h.1, h.2.mono hk⟩
  own_loc h hk := ⟨h.1, h.2.loc hk⟩
  own_lt h := h.2.lt
  own_rd h := ⟨h.1, h.2.rd⟩
/-- So many rows. -/
def Rws (T : Ty α) (l : List (V1 × List α)) : Ck := ⟨fun w F => Els T.tv w F l (l.map fun x => x.1.1), fun h hk => Els.loc h hk, fun h => Els.lt h⟩

theorem els_tv : ∀ {F : List Nat} {L : List (List α)} {cs : List Value}, Els T.slice w F L cs → ∃ l : List (V1 × List α), l.map Prod.snd = L ∧ cs = l.map (fun x => x.1.1) ∧ Els T.tv w F l cs
  | _, [], _, h => ⟨[], rfl, h.1, h⟩
  | _, x :: L, _, ⟨c, d, F1, F2, e1, e2, hc, h2, hd⟩ => by
    obtain ⟨v, rfl, hv⟩ := hc
    obtain ⟨l, h3, h4, h5⟩ := els_tv h2
    have h1 : v.oneCell' = true := T.slice.rd_one (w := w) (G := F1) (x := x) (cs := [v]) ⟨v, rfl, hv.rd⟩ v (by simp)
    refine ⟨(⟨v, h1⟩, x) :: l, by simp [h3], by simp [e1, h4], [v], d, F1, F2, e1, e2, ⟨rfl, hv⟩, h5, hd⟩
/-- A row of rows: its own cells apart from the rows. -/
theorem SL.rows_open {L : List (List α)} (hs : SL w0 F0 w (Sl T.slice v L :: ps)) : ∃ l : List (V1 × List α), l.map Prod.snd = L ∧ SL w0 F0 w (Sl Ty.val v (l.map Prod.fst) :: Rws T l :: ps) := by
  obtain ⟨F, ⟨G1, G2, e, ⟨cs, F1, F2, rfl, hrow, hE, hd⟩, hst, hdis⟩, hF⟩ := hs.st
  obtain ⟨l, h1, h2, h3⟩ := els_tv hE
  refine ⟨l, h1, hs.fm, F1 ++ (F2 ++ G2), ⟨F1, F2 ++ G2, rfl, ?_, ⟨F2, G2, rfl, ?_, hst, fun k hk => hdis k (by simp [hk])⟩, fun k hk hk' => ?_⟩, fun k hk => hF k (by simp only [List.mem_append] at hk; rw [e]; simp only [List.mem_append]; rcases hk with hk | hk | hk <;> simp [hk])⟩
  · refine (Flat.val.slOwn).2 ?_
    have e2 : (l.map Prod.fst).flatMap (fun u : V1 => [u.1]) = cs := by
      rw [h2, List.flatMap_map]
      clear h1 h2 h3 hE hrow
      induction l with
      | nil => rfl
      | cons x l ih => simpa [List.flatMap_cons] using ih
    rw [e2]
    have e3 : (l.map Prod.fst).length = L.length := by rw [← h1]; simp
    rw [e3]
    exact hrow
  · show Els T.tv w F2 l _
    rw [← h2]
    exact h3
  · rw [List.mem_append] at hk'
    rcases hk' with hk' | hk'
    · exact hd k hk hk'
    · exact hdis k (by simp [hk]) hk'
theorem SL.rows_nil (hs : SL w0 F0 w ps) : SL w0 F0 w (Rws T [] :: ps) :=
  hs.re fun F hF => ⟨F, ⟨[], F, rfl, ⟨rfl, rfl⟩, hF, by simp⟩, fun _ => Iff.rfl⟩
theorem SL.rows_pop {x : V1 × List α} {r : List (V1 × List α)} (hs : SL w0 F0 w (Rws T (x :: r) :: ps)) : SL w0 F0 w (Sl T x.1.1 x.2 :: Rws T r :: ps) :=
  hs.re fun F hF => by
    obtain ⟨G1, G2, e, ⟨c, d, F1, F2, e1, e2, ⟨e3, h1⟩, h2, hd⟩, hst, hdis⟩ := hF
    subst e e2 e3
    obtain rfl : r.map (fun x => x.1.1) = d := by simpa using e1
    exact ⟨F1 ++ (F2 ++ G2), ⟨F1, F2 ++ G2, rfl, h1, ⟨F2, G2, rfl, h2, hst, fun k hk => hdis k (by simp [hk])⟩, fun k hk hk' => by
      rw [List.mem_append] at hk'
      rcases hk' with hk' | hk'
      · exact hd k hk hk'
      · exact hdis k (by simp [hk]) hk'⟩, fun k => by simp⟩
theorem SL.rows_push {x : V1} {r : List (V1 × List α)} (hs : SL w0 F0 w (Sl T x.1 b :: Rws T r :: ps)) : SL w0 F0 w (Rws T (r ++ [(x, b)]) :: ps) :=
  hs.re fun F hF => by
    obtain ⟨G1, G2, e, h1, ⟨G3, G4, e', h2, hst, hdis'⟩, hdis⟩ := hF
    subst e e'
    have h1 : slOwn T w G1 x.1 b := h1
    have h2 : Els T.tv w G3 r (r.map fun x => x.1.1) := h2
    refine ⟨(G3 ++ G1) ++ G4, ⟨G3 ++ G1, G4, rfl, ?_, hst, fun k hk hk' => ?_⟩, fun k => by simp only [List.mem_append, or_assoc]; exact or_left_comm⟩
    · show Els T.tv w (G3 ++ G1) (r ++ [(x, b)]) _
      rw [List.map_append]
      exact Els.append ⟨_, _, G3, G1, rfl, rfl, h2, Els.one ⟨rfl, h1⟩, fun k hk hk' => hdis k hk' (by simp [hk])⟩
    · rw [List.mem_append] at hk
      rcases hk with hk | hk
      · exact hdis' k hk hk'
      · exact hdis k hk (by simp [hk'])

/-- Two rows that are read; they may share memory. -/
def Ty.two (T : Ty α) : Ty ((V1 × List α) × (V1 × List α)) where
  sz := 0
  rd w G x cs := cs = [] ∧ slRd T w G x.1.1.1 x.1.2 ∧ slRd T w G x.2.1.1 x.2.2
  own w F x cs := cs = [] ∧ slRd T w F x.1.1.1 x.1.2 ∧ slRd T w F x.2.1.1 x.2.2 ∧ ∀ k ∈ F, k < w.heap.size
  rd_len h := by rw [h.1]; rfl
  rd_one h u hu := by rw [h.1] at hu; cases hu
  rd_loc h hk := ⟨h.1, h.2.1.loc hk, h.2.2.loc hk⟩
  rd_mono h hk := ⟨h.1, h.2.1.mono hk, h.2.2.mono hk⟩
  own_loc {w w' F x cs} h hk := ⟨h.1, h.2.1.loc hk, h.2.2.1.loc hk, fun k hk' => by
    have h1 := hk k hk'
    have h2 := h.2.2.2 k hk'
    rcases Nat.lt_or_ge k w'.heap.size with h3 | h3
    · exact h3
    · rw [Array.getElem?_eq_none h3, Array.getElem?_eq_getElem h2] at h1
      cases h1⟩
  own_lt h := h.2.2.2
  own_rd h := ⟨h.1, h.2.1, h.2.2.1⟩
def Twos (T : Ty α) (l : List ((V1 × List α) × (V1 × List α))) : Ck := ⟨fun w F => Els T.two w F l [], fun h hk => Els.loc h hk, fun h => Els.lt h⟩
theorem SL.twos_nil (hs : SL w0 F0 w ps) : SL w0 F0 w (Twos T [] :: ps) :=
  hs.re fun F hF => ⟨F, ⟨[], F, rfl, ⟨rfl, rfl⟩, hF, by simp⟩, fun _ => Iff.rfl⟩

/-- The row g at v, begun as the row b at u, which is still read. -/
def Gw (T : Ty α) (u : Value) (b : List α) (v : Value) (g : List α) : Ck :=
  ⟨fun w F => (∃ A c c', u = .slice A b.length c ∧ b.length ≤ c ∧ v = .slice A g.length c' ∧ b <+: g ∧ slOwn T w F v g) ∨
      ∃ F1 F2, F = F1 ++ F2 ∧ slOwn T w F1 v g ∧ slRd T w F2 u b ∧ (∀ k ∈ F2, k < w.heap.size) ∧ ∀ k ∈ F1, k ∉ F2,
   fun {w w' F} h hk => (by
    rcases h with ⟨A, c, c', h1, h2, h3, h4, h5⟩ | ⟨F1, F2, rfl, h1, h2, h3, h4⟩
    · exact .inl ⟨A, c, c', h1, h2, h3, h4, h5.loc hk⟩
    · refine .inr ⟨F1, F2, rfl, h1.loc fun k h => hk k (by simp [h]), h2.loc fun k h => hk k (by simp [h]), fun k hk' => ?_, h4⟩
      have h5 := hk k (by simp [hk'])
      rcases Nat.lt_or_ge k w'.heap.size with h6 | h6
      · exact h6
      · rw [Array.getElem?_eq_none h6, Array.getElem?_eq_getElem (h3 k hk')] at h5
        cases h5),
   fun {w F} h k hk => by
    rcases h with ⟨A, c, c', h1, h2, h3, h4, h5⟩ | ⟨F1, F2, rfl, h1, h2, h3, h4⟩
    · exact h5.lt k hk
    · rw [List.mem_append] at hk
      rcases hk with hk | hk
      · exact h1.lt k hk
      · exact h3 k hk⟩
theorem SL.gw_init (hs : SL w0 F0 w (Sl T u b :: ps)) : SL w0 F0 w (Gw T u b u b :: ps) :=
  hs.re fun F hF => by
    obtain ⟨G1, G2, e, h1, hst, hdis⟩ := hF
    have h1 : slOwn T w G1 u b := h1
    obtain ⟨A, c, hv, hc, _⟩ := h1.rd
    exact ⟨F, ⟨G1, G2, e, .inl ⟨A, c, c, hv, hc, hv, List.prefix_refl _, h1⟩, hst, hdis⟩, fun _ => Iff.rfl⟩
theorem slRd.pre {A : Option Addr} {c c' : Nat} (h : slRd T w G (.slice A g.length c') g) (hp : b <+: g) (hc : b.length ≤ c) : slRd T w G (.slice A b.length c) b := by
  obtain ⟨A', c'', hv, hc', hi⟩ := h
  injection hv with h1 h2 h3
  subst h1 h3
  refine ⟨A, c, rfl, hc, fun i x hx => hi i x ?_⟩
  obtain ⟨r, rfl⟩ := hp
  rw [List.getElem?_append_left (List.getElem?_eq_some_iff.1 hx).1]
  exact hx
theorem SL.gw_two {u v : V1} {d : List ((V1 × List α) × (V1 × List α))} (hs : SL w0 F0 w (Gw T u.1 b v.1 g :: Twos T d :: ps)) : SL w0 F0 w (Twos T (d ++ [((u, b), (v, g))]) :: ps) :=
  hs.re fun F hF => by
    obtain ⟨G1, G2, e, h1, ⟨G3, G4, e', h2, hst, hdis'⟩, hdis⟩ := hF
    subst e e'
    have h2 : Els T.two w G3 d [] := h2
    have h3 : T.two.own w G1 ((u, b), (v, g)) [] := by
      rcases h1 with ⟨A, c, c', h1, h2, h3, h4, h5⟩ | ⟨F1, F2, rfl, h1, h2, h3, h4⟩
      · have h6 := h5.rd
        refine ⟨rfl, ?_, h6, h5.lt⟩
        show slRd T w G1 u.1 b
        rw [h1]
        rw [h3] at h6
        exact h6.pre h4 h2
      · exact ⟨rfl, h2.mono fun k hk => by simp [hk], h1.rd.mono fun k hk => by simp [hk], fun k hk => by
          rw [List.mem_append] at hk
          rcases hk with hk | hk
          · exact h1.lt k hk
          · exact h3 k hk⟩
    refine ⟨(G3 ++ G1) ++ G4, ⟨G3 ++ G1, G4, rfl, ?_, hst, fun k hk hk' => ?_⟩, fun k => by simp only [List.mem_append, or_assoc]; exact or_left_comm⟩
    · show Els T.two w (G3 ++ G1) (d ++ [((u, b), (v, g))]) []
      exact Els.append ⟨[], [], G3, G1, rfl, rfl, h2, Els.one h3, fun k hk hk' => hdis k hk' (by simp [hk])⟩
    · rw [List.mem_append] at hk
      rcases hk with hk | hk
      · exact hdis' k hk hk'
      · exact hdis k hk (by simp [hk'])

/-- Rows of rows that are read. -/
def Bo (T : Ty α) (v : Value) (L : List (List α)) (u : Value) (M : List (List α)) : Ck :=
  ⟨fun w F => slRd T.slice w F v L ∧ slRd T.slice w F u M ∧ ∀ k ∈ F, k < w.heap.size,
   fun {w w' F} h hk => ⟨h.1.loc hk, h.2.1.loc hk, fun k hk' => (by
    have h5 := hk k hk'
    rcases Nat.lt_or_ge k w'.heap.size with h6 | h6
    · exact h6
    · rw [Array.getElem?_eq_none h6, Array.getElem?_eq_getElem (h.2.2 k hk')] at h5
      cases h5)⟩, fun h => h.2.2⟩
theorem els_two : ∀ {d : List ((V1 × List α) × (V1 × List α))} {F : List Nat} {cs : List Value}, Els T.two w F d cs → ∀ x ∈ d, slRd T w F x.1.1.1 x.1.2 ∧ slRd T w F x.2.1.1 x.2.2
  | [], _, _, _, x, hx => by cases hx
  | y :: d, _, _, ⟨c, e, F1, F2, e1, e2, h1, h2, hd⟩, x, hx => by
    rcases List.mem_cons.1 hx with rfl | hx
    · exact ⟨h1.2.1.mono fun k hk => by simp [e2, hk], h1.2.2.1.mono fun k hk => by simp [e2, hk]⟩
    · have := els_two h2 x hx
      exact ⟨this.1.mono fun k hk => by simp [e2, hk], this.2.mono fun k hk => by simp [e2, hk]⟩
theorem slRd.vals {us : List V1} {L : List (List α)} (h : slRd Ty.val w F v us) (hl : us.length = L.length) (hr : ∀ (i : Nat) (x : V1) (l : List α), us[i]? = some x → L[i]? = some l → slRd T w F x.1 l) : slRd T.slice w F v L := by
  obtain ⟨A, c, hv, hc, hi⟩ := h
  refine ⟨A, c, by rw [hv, hl], by omega, fun i l hL => ?_⟩
  have hlt := (List.getElem?_eq_some_iff.1 hL).1
  obtain ⟨x, hx⟩ : ∃ x, us[i]? = some x := ⟨us[i], List.getElem?_eq_getElem (by omega)⟩
  obtain ⟨ad, cs, h1, h2, h3, h4⟩ := hi i x hx
  have h4 : cs = [x.1] := h4
  subst h4
  exact ⟨ad, [x.1], h1, h2, h3, x.1, rfl, hr i x l hx hL⟩
theorem SL.bo {us vs : List V1} {d : List ((V1 × List α) × (V1 × List α))} (hs : SL w0 F0 w (Sl Ty.val v us :: Sl Ty.val u vs :: Twos T d :: ps)) (h1 : us = d.map fun x : (V1 × List α) × (V1 × List α) => x.1.1) (h2 : vs = d.map fun x : (V1 × List α) × (V1 × List α) => x.2.1) :
    SL w0 F0 w (Bo T v (d.map fun x : (V1 × List α) × (V1 × List α) => x.1.2) u (d.map fun x : (V1 × List α) × (V1 × List α) => x.2.2) :: ps) :=
  hs.re fun F hF => by
    obtain ⟨G1, G2, e, k1, ⟨G3, G4, e', k2, ⟨G5, G6, e'', k3, hst, hd3⟩, hd2⟩, hd1⟩ := hF
    subst e e' e''
    have k1 : slOwn Ty.val w G1 v us := k1
    have k2 : slOwn Ty.val w G3 u vs := k2
    have k3 : Els T.two w G5 d [] := k3
    have k4 := els_two k3
    refine ⟨(G1 ++ (G3 ++ G5)) ++ G6, ⟨G1 ++ (G3 ++ G5), G6, rfl, ⟨?_, ?_, fun k hk => ?_⟩, hst, fun k hk hk' => ?_⟩, fun k => by simp only [List.mem_append, or_assoc]⟩
    · refine slRd.vals (k1.rd.mono fun k hk => by simp [hk]) (by rw [h1]; simp) fun i x l hx hL => ?_
      rw [h1, List.getElem?_map, Option.map_eq_some_iff] at hx
      rw [List.getElem?_map, Option.map_eq_some_iff] at hL
      obtain ⟨y, hy, rfl⟩ := hx
      obtain ⟨z, hz, rfl⟩ := hL
      rw [hy] at hz
      obtain rfl := Option.some.inj hz
      exact (k4 y (List.mem_of_getElem? hy)).1.mono fun k hk => by simp [hk]
    · refine slRd.vals (k2.rd.mono fun k hk => by simp [hk]) (by rw [h2]; simp) fun i x l hx hL => ?_
      rw [h2, List.getElem?_map, Option.map_eq_some_iff] at hx
      rw [List.getElem?_map, Option.map_eq_some_iff] at hL
      obtain ⟨y, hy, rfl⟩ := hx
      obtain ⟨z, hz, rfl⟩ := hL
      rw [hy] at hz
      obtain rfl := Option.some.inj hz
      exact (k4 y (List.mem_of_getElem? hy)).2.mono fun k hk => by simp [hk]
    · simp only [List.mem_append] at hk
      rcases hk with hk | hk | hk
      · exact k1.lt k hk
      · exact k2.lt k hk
      · exact k3.lt k hk
    · simp only [List.mem_append] at hk
      rcases hk with hk | hk | hk
      · exact hd1 k hk (by simp [hk'])
      · exact hd2 k hk (by simp [hk'])
      · exact hd3 k hk hk'
theorem bo_rd {L M : List (List α)} {rest : List Ck} (hm : Bo T v L u M ∈ rest) (hG : ∃ G, Star rest w G ∧ ∀ k ∈ F, k ∉ G) : Rd T.slice w F v L ∧ Rd T.slice w F u M := by
  obtain ⟨G, h1, h2⟩ := hG
  obtain ⟨G', h3, h4⟩ := star_mem hm h1
  obtain ⟨h5, h6, h7⟩ := h3
  exact ⟨⟨G', h5, fun k hk => ⟨h7 k hk, fun hin => h2 k hin (h4 k hk)⟩⟩, ⟨G', h6, fun k hk => ⟨h7 k hk, fun hin => h2 k hin (h4 k hk)⟩⟩⟩
end

/-! ### append, with what was there still read -/
section
variable {P : Program} {w : World} {t e sz bytes ty : Nat} {z : Value → Bool}
theorem run_append_two (hb : slB P t e sz bytes z = true) (hz : ∀ v, z v = true → v.cells.size = sz) (hsz : 0 < sz)
    {F : List Nat} {v : Value} {n : Nat} {xs : List Value} (h : rowOwn sz w F v n xs) {A : Option Addr} {m c : Nat} {news : List Value} (hl : news.length = m * sz) (hnews : RCells w A news) (h1 : ∀ u ∈ news, u.oneCell' = true)
    (hbytes : (n + m) * bytes ≤ 140737488355328) (h63 : n + m ≤ 9223372036854775807) :
    ∃ v' w' F', (Builtin.append_ #[t, t] ty #[v, .slice A m c]).run P w = .ok v' w' ∧ rowOwn sz w' F' v' (n + m) (xs ++ news) ∧ Fm w F w' ∧
      ((F' = F ∧ ∃ A' cap, v = .slice A' n cap ∧ v' = .slice A' (n + m) cap) ∨ (Fm w [] w' ∧ ∀ k ∈ F', w.heap.size ≤ k)) := by
  obtain ⟨ht, i, zv, hi, h2, h3, h4, h5⟩ := slB_spec hb
  have hzs := hz _ h5
  subst h2 h3
  have hlen : (xs ++ news).length = (n + m) * i.size := by rw [List.length_append, h.1, hl, Nat.add_mul]
  have grown : ∀ (old : Nat), old < n + m → ∀ F : List Nat,
      rowOwn i.size (w.drew.alloc (.cells (xs.toArray ++ news.toArray ++ Builtin.zeroCells zv.cells (grownCap w (n + m) old e - (n + m))) e)) [w.heap.size]
        (.slice (some ⟨w.heap.size, 0, none⟩) (n + m) (grownCap w (n + m) old e)) (n + m) (xs ++ news) ∧
      Fm w F (w.drew.alloc (.cells (xs.toArray ++ news.toArray ++ Builtin.zeroCells zv.cells (grownCap w (n + m) old e - (n + m))) e)) := by
    intro old ho F
    have hge := grownCap_ge w (n + m) old e
    refine ⟨⟨hlen, .inr ⟨w.heap.size, 0, _, _, e, (0, 0), rfl, rfl, heap_alloc_new w.drew _, hge, ?_, by simp, ?_⟩⟩, (Fm.drew w F).trans (Fm.alloc _ F _) (fun k hk => .inl hk)⟩
    · simp only [Array.size_append, List.size_toArray, size_zeroCells, hzs, h.1, hl, ← Nat.add_mul, Nat.zero_add]
      exact Nat.mul_le_mul_right _ (by omega)
    · intro j u hu
      have hj := (List.getElem?_eq_some_iff.1 hu).1
      rw [Nat.zero_add, Array.getElem?_append_left (by simpa using hj)]
      simpa using hu
  by_cases hm : m = 0
  · subst hm
    have hn : news = [] := List.eq_nil_of_length_eq_zero (by simpa using hl)
    subst hn
    have hf : (Builtin.firstCells i.size 0 (.slice A 0 c)).run P w = .ok #[] w := by
      cases A <;> simp [Builtin.firstCells, loadCells, loadCellsFrom]
    have hcap : ∃ A' cap, v = .slice A' n cap ∧ n ≤ cap := by
      rcases h.2 with ⟨rfl, rfl, rfl⟩ | ⟨g, o, cap, cur, e', fz, rfl, rfl, hg, hnc, _⟩
      · exact ⟨_, _, rfl, Nat.le_refl _⟩
      · exact ⟨_, _, rfl, hnc⟩
    obtain ⟨A', cap, rfl, hnc⟩ := hcap
    refine ⟨.slice A' n cap, w, F, ?_, by simpa using h, Fm.refl w F, .inl ⟨rfl, A', cap, rfl, rfl⟩⟩
    cases A' <;> simp [Builtin.append_, run_underlying ht, sizeOf, typeInfo, hi, Builtin.lenOf, hf, hnc, storeCells]
  · have hA : ∃ ad, A = some ad := by
      cases A with
      | some ad => exact ⟨ad, rfl⟩
      | none =>
        have hn := hnews.none_
        rw [hn] at hl
        have : 0 < m * i.size := Nat.mul_pos (by omega) hsz
        simp at hl
        omega
    obtain ⟨a, rfl⟩ := hA
    have hnews := hnews.some_
    rcases h.2 with ⟨rfl, rfl, rfl⟩ | ⟨g, o, cap, cur, e', fz, rfl, rfl, hg, hnc, hoc, hfz, htake⟩
    · have hx : xs = [] := List.eq_nil_of_length_eq_zero (by simpa using h.1)
      subst hx
      have hr := run_append_nil (P := P) w t ty e i zv ht hi h4 a m c news hl hnews (by omega) (by omega) (by simp only [Nat.zero_add] at hbytes; omega)
      have hgr := grown 0 (by omega) []
      simp only [Nat.zero_add, List.nil_append, Array.empty_append] at hgr ⊢
      exact ⟨_, _, _, hr, hgr.1, hgr.2, .inr ⟨hgr.2, by simp⟩⟩
    · by_cases hroom : n + m ≤ cap
      · have hfit : o + n * i.size + news.length ≤ cur.size := by
          have := Nat.mul_le_mul_right i.size hroom
          rw [Nat.add_mul, ← hl] at this
          omega
        have hst := run_storeCells_fz (P := P) g (o + n * i.size) e' fz news 0 cur w hg hfz (by simpa using hfit) h1
        simp only [Nat.add_zero] at hst
        have hf := run_firstCells_some (P := P) w i.size m a m c news hl hnews
        have hr : (Builtin.append_ #[t, t] ty #[Value.slice (some ⟨g, o, none⟩) n cap, .slice (some a) m c]).run P w =
            .ok (.slice (some ⟨g, o, none⟩) (n + m) cap) (w.setRow g (cur.toList.take (o + n * i.size) ++ news ++ cur.toList.drop (o + n * i.size + news.length)).toArray) := by
          simp [Builtin.append_, run_underlying ht, sizeOf, typeInfo, hi, Builtin.lenOf, hroom, hf, add_mk, hst]
        refine ⟨_, _, [g], hr, ⟨hlen, .inr ⟨g, o, cap, _, e', fz, rfl, rfl, setRow_heap w g cur _ e' _ hg, hroom, ?_, ?_, ?_⟩⟩,
          Fm.one rfl rfl rfl (by simp) (fun k hk => setRow_other w g k _ hk), .inl ⟨rfl, _, _, rfl, rfl⟩⟩
        · simp only [List.size_toArray, List.length_append, List.length_take, List.length_drop, Array.length_toList]
          omega
        · intro j hj
          apply hfz
          simp only [List.size_toArray, List.length_append, List.length_take, List.length_drop, Array.length_toList] at hj
          omega
        · intro j u hu
          have := seg_getElem (l := cur.toList) (o := o) h.1 (fun j u hu => by rw [Array.getElem?_toList]; exact htake j u hu) (by simpa using hfit) j u hu
          simpa using this
      · have holds : ∀ j u, xs[j]? = some u → w.cell? ((⟨g, o, none⟩ : Addr).add j) = some u := fun j u hu => by rw [add_mk]; simp [World.cell?, hg, htake j u hu]
        have hr := run_append_grow (P := P) w t ty e i zv ht hi h4 ⟨g, o, none⟩ n cap xs h.1 holds a m c news hl hnews (by omega) (by omega) (growslice_fits (by omega) hbytes)
        have hgr := grown cap (by omega) [g]
        exact ⟨_, _, _, hr, hgr.1, hgr.2, .inr ⟨(grown cap (by omega) []).2, fun k hk => by simp at hk; omega⟩⟩
end
section
variable {P : Program} {w0 w : World} {F0 : List Nat} {ps : List Ck} {m : List (Nat × Value)} {n d : Nat} {ty : TypeId} {pos : String} {aft : Array Edge} {x y : Operand} {ops : Array Oper} {Q : Exit → Act → World → Prop} {a : Act} {l' : List Oper}
variable {α : Type} {T : Ty α} {enc : α → List Value}
theorem st_append_gw (hFl : Flat T enc) {u0 v u : Value} {b l r s : List α} {G : List Nat} {t e sz bytes lim : Nat} (hF : Fr a n m) (hs : SL w0 F0 w (Gw T u0 b v l :: ps)) (hb : slB P t e sz bytes (szB sz) = true) (hsz : T.sz = sz) (h0 : Nat.blt 0 sz = true)
    (hx : ev m x = some v) (hy : ev m y = some u) (hr : slRd T w G u r) (hlim : Nat.ble (lim * bytes) 140737488355328 = true) (hlim' : Nat.ble lim 9223372036854775807 = true) (happ : app lim l r = some s) (hlt : Nat.blt d n = true)
    (k : ∀ v w a, Fr a n ((d, v) :: m) → SL w0 F0 w (Gw T u0 b v s :: ps) → wpList P ops Q l' a w) :
    wpList P ops Q (⟨some d, .call { callee := .builtin .append, args := #[x, y], argTypes := #[t, t] }, ty, pos, aft, none⟩ :: l') a w := by
  subst hsz
  have h0 : 0 < T.sz := by simpa [Nat.blt_eq] using h0
  obtain ⟨h1, rfl⟩ := app_some happ
  obtain ⟨A, c, rfl, hcells⟩ := slRd.cells hFl h0 hr
  obtain ⟨F, hst, hF0, _, hcl⟩ := SL.open_ (ps := [Gw T u0 b v l]) hs
  have hlim := Nat.le_of_ble_eq_true hlim
  have hb1 := Nat.le_trans (Nat.mul_le_mul_right bytes h1) hlim
  have hb2 := Nat.le_trans h1 (Nat.le_of_ble_eq_true hlim')
  rcases Star.of_one hst with ⟨A0, c0, c1, g1, g2, g3, g4, g5⟩ | ⟨F1, F2, rfl, g1, g2, g3, g4⟩
  · have hrow := hFl.slOwn.1 g5
    obtain ⟨v', w', F', hrun, hrow', hfm, hcase⟩ := run_append_two (ty := ty) (c := c) hb szB_spec h0 hrow (flat_len hFl r) hcells (flat_one hFl r) hb1 hb2
    have hown : slOwn T w' F' v' (l ++ r) := hFl.slOwn.2 (by rw [List.flatMap_append, List.length_append]; exact hrow')
    rcases hcase with ⟨rfl, A', cap, e1, e2⟩ | ⟨hfm0, hnew⟩
    · have hP : (Gw T u0 b v' (l ++ r)).P w' F' := by
        rw [g3] at e1
        injection e1 with e3 e4 e5
        subst e3
        exact .inl ⟨A0, c0, cap, g1, g2, by rw [e2, List.length_append], g4.trans (List.prefix_append _ _), hown⟩
      refine st_op hF (v := v') (w' := w') (fun a n hF => ?_) rfl rfl hlt fun a hF => k _ _ a hF (hcl w' [Gw T u0 b v' (l ++ r)] ⟨hfm, F', Star.one hP, fun k hk => .inl hk⟩)
      simp [execOp, resolve, invoke, builtin, hF.eval hx, hF.eval hy, hrun]
    · have hlt1 := g5.lt
      have hrd : slRd T w' F u0 b := by
        have h6 := g5.rd
        rw [g3] at h6
        rw [g1]
        exact (h6.pre g4 g2).loc fun k hk => hfm0.block k (hlt1 k hk) (by simp)
      have hP : (Gw T u0 b v' (l ++ r)).P w' (F' ++ F) := .inr ⟨F', F, rfl, hown, hrd, fun k hk => Nat.lt_of_lt_of_le (hlt1 k hk) hfm0.size, fun k hk hk' => by have := hnew k hk; have := hlt1 k hk'; omega⟩
      refine st_op hF (v := v') (w' := w') (fun a n hF => ?_) rfl rfl hlt fun a hF => k _ _ a hF (hcl w' [Gw T u0 b v' (l ++ r)] ⟨hfm, F' ++ F, Star.one hP, fun k hk => by
        rw [List.mem_append] at hk
        rcases hk with hk | hk
        · exact .inr (hnew k hk)
        · exact .inl hk⟩)
      simp [execOp, resolve, invoke, builtin, hF.eval hx, hF.eval hy, hrun]
  · have hrow := hFl.slOwn.1 g1
    obtain ⟨v', w', F', hrun, hrow', hfm, hcase⟩ := run_append_two (ty := ty) (c := c) hb szB_spec h0 hrow (flat_len hFl r) hcells (flat_one hFl r) hb1 hb2
    have hown : slOwn T w' F' v' (l ++ r) := hFl.slOwn.2 (by rw [List.flatMap_append, List.length_append]; exact hrow')
    have hrd : slRd T w' F2 u0 b := g2.loc fun k hk => hfm.block k (g3 k hk) fun hin => g4 k hin hk
    have hF' : ∀ k ∈ F', k ∈ F1 ∨ w.heap.size ≤ k := by
      rcases hcase with ⟨rfl, _⟩ | ⟨_, hnew⟩
      · exact fun k hk => .inl hk
      · exact fun k hk => .inr (hnew k hk)
    have hP : (Gw T u0 b v' (l ++ r)).P w' (F' ++ F2) := .inr ⟨F', F2, rfl, hown, hrd, fun k hk => Nat.lt_of_lt_of_le (g3 k hk) hfm.size, fun k hk hk' => by
      rcases hF' k hk with h | h
      · exact g4 k h hk'
      · have := g3 k hk'; omega⟩
    refine st_op hF (v := v') (w' := w') (fun a n hF => ?_) rfl rfl hlt fun a hF => k _ _ a hF (hcl w' [Gw T u0 b v' (l ++ r)] ⟨⟨hfm.os, hfm.tape, hfm.output, hfm.size, fun k hk hn => hfm.block k hk fun hin => hn (by simp [hin])⟩, F' ++ F2, Star.one hP, fun k hk => by
      rw [List.mem_append] at hk
      rcases hk with hk | hk
      · rcases hF' k hk with h | h
        · exact .inl (by simp [h])
        · exact .inr h
      · exact .inl (by simp [hk])⟩)
    simp [execOp, resolve, invoke, builtin, hF.eval hx, hF.eval hy, hrun]
end
/-! ### Marks -/
section
variable {α β : Type} {T : Ty α} {enc : α → List Value} {w0 w w' : World} {F0 F G : List Nat} {ps : List Ck} {v u : Value} {l b g : List α}
def marks (f : Nat → α) : Nat → List (List α) → List (List α)
  | _, [] => []
  | i, l :: r => List.replicate l.length (f i) :: marks f (i + 1) r
def mores (f : Nat → α) : Nat → List (List α) → List (List α)
  | _, [] => []
  | i, l :: r => (l ++ List.replicate 80 (f i)) :: mores f (i + 1) r
def mkd (f : Nat → α) : Nat → List (V1 × List α) → List (V1 × List α)
  | _, [] => []
  | i, x :: r => (x.1, List.replicate x.2.length (f i)) :: mkd f (i + 1) r
theorem mkd_snoc (f : Nat → α) (x : V1 × List α) : ∀ (l : List (V1 × List α)) (i : Nat), mkd f i (l ++ [x]) = mkd f i l ++ [(x.1, List.replicate x.2.length (f (i + l.length)))]
  | [], i => rfl
  | y :: l, i => by simp only [List.cons_append, mkd, mkd_snoc f x l (i + 1), List.length_cons]; rw [show i + 1 + l.length = i + (l.length + 1) from by omega]
theorem mkd_fst (f : Nat → α) : ∀ (l : List (V1 × List α)) (i : Nat), (mkd f i l).map Prod.fst = l.map Prod.fst
  | [], _ => rfl
  | x :: l, i => by simp [mkd, mkd_fst f l (i + 1)]
theorem mkd_snd (f : Nat → α) : ∀ (l : List (V1 × List α)) (i : Nat), (mkd f i l).map Prod.snd = marks f i (l.map Prod.snd)
  | [], _ => rfl
  | x :: l, i => by simp [mkd, marks, mkd_snd f l (i + 1)]
theorem mores_snoc (f : Nat → α) (x : List α) : ∀ (l : List (List α)) (i : Nat), mores f i (l ++ [x]) = mores f i l ++ [x ++ List.replicate 80 (f (i + l.length))]
  | [], i => rfl
  | y :: l, i => by simp only [List.cons_append, mores, mores_snoc f x l (i + 1), List.length_cons]; rw [show i + 1 + l.length = i + (l.length + 1) from by omega]
theorem marks_len (f : Nat → α) : ∀ (l : List (List α)) (i : Nat), ∀ x ∈ marks f i l, ∃ y ∈ l, x.length = y.length
  | [], _, x, h => by cases h
  | y :: l, i, x, h => by
    rcases List.mem_cons.1 h with rfl | h
    · exact ⟨y, by simp, by simp⟩
    · obtain ⟨z, h1, h2⟩ := marks_len f l (i + 1) x h
      exact ⟨z, by simp [h1], h2⟩
theorem idx_mid {x : β} {pre r : List β} {i : Nat} (h : pre.length = i) : idx (pre ++ x :: r) (i : Int) = some x := by
  subst h
  unfold idx
  rw [if_pos (by omega)]
  simp
theorem idx_mark {f : α} {l : List α} {k : Nat} (h : k < l.length) : idx (List.replicate k f ++ l.drop k) (k : Int) = some l[k] := by
  rw [List.drop_eq_getElem_cons h]
  exact idx_mid (by simp)
theorem set_mark {f : α} {l : List α} {k : Nat} (h : k < l.length) : (List.replicate k f ++ l.drop k).set ((k : Int)).toNat f = List.replicate (k + 1) f ++ l.drop (k + 1) := by
  rw [List.drop_eq_getElem_cons h, show ((k : Int)).toNat = k from by omega, List.set_append_right _ _ (by simp)]
  simp only [List.length_replicate, Nat.sub_self, List.set_cons_zero]
  rw [List.replicate_succ', List.append_assoc]
  rfl
theorem end_mark {f : α} {l : List α} {k : Nat} (h : k = l.length) : List.replicate k f ++ l.drop k = List.replicate l.length f := by
  subst h
  simp
/-- The value of a row among others. -/
theorem hd_idx {P : Program} {t e bytes : Nat} {z : Value → Bool} {us : List V1} {x : V1} {i : Int} (hs : SL w0 F0 w ps) (hm : Sl Ty.val v us ∈ ps) (hb : slB P t e 1 bytes z = true) (hx : idx us i = some x) : ∃ ad, IxA P t v i ad ∧ w.cell? ad = some x.1 := by
  obtain ⟨ad, h1, h2⟩ := own_idxf Flat.val hs hm hb rfl hx
  have := h2 0 _ rfl
  rw [show ad.add 0 = ad from rfl] at this
  exact ⟨ad, h1, this⟩
theorem SL.gw_form (hs : SL w0 F0 w (Gw T u b v g :: ps)) : ∃ A c, v = .slice A g.length c := by
  obtain ⟨F, ⟨F1, F2, e, h, _⟩, _⟩ := hs.st
  rcases h with ⟨A, c, c', h1, h2, h3, h4, h5⟩ | ⟨F1, F2, rfl, h1, h2, h3, h4⟩
  · exact ⟨A, c', h3⟩
  · exact h1.rd.form
theorem dt_snoc {d : List ((V1 × List α) × (V1 × List α))} {pre : List (V1 × List α)} {x : V1 × List α} {vg : V1} {f : Nat → α} (h1 : d.map Prod.fst = pre) (h2 : (d.map fun y => y.2.2) = mores f 0 (pre.map Prod.snd)) {i : Nat} (hi : pre.length = i) :
    (d ++ [(((x.1, x.2), (vg, x.2 ++ List.replicate 80 (f i))) : (V1 × List α) × (V1 × List α))]).map Prod.fst = pre ++ [x] ∧ ((d ++ [(((x.1, x.2), (vg, x.2 ++ List.replicate 80 (f i))) : (V1 × List α) × (V1 × List α))]).map fun y => y.2.2) = mores f 0 ((pre ++ [x]).map Prod.snd) := by
  subst hi
  refine ⟨by simp [h1], ?_⟩
  rw [List.map_append, h2, List.map_append (f := Prod.snd), List.map_cons, List.map_nil, List.map_cons, List.map_nil, mores_snoc]
  simp
end
end Go.Pv
