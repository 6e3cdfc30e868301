/- Lemmas, walks and laws that the row of this claim rests on, merged into few texts: part 3. -/
import Derived.Test.YtfcpkcehecmcpaaGreatKBb
set_option linter.unusedVariables false
set_option linter.unusedSimpArgs false
open Option renaming bind_some → Am6, getD_some → Am7
open List renaming getElem?_eq_getElem → Am8, length_append → Am9, length_map → Ana, length_singleton → Anb, length_set → Anc, length_take → Ane, mem_append → Anf, mem_singleton → Ang, mem_cons → Anh, mem_filter → Ani, mem_range → Anj, mem_map → Ank, getElem_mem → Anl, map_append → Anm, filter_append → Ann, filter_cons → Ano, range_succ → Anp, append_nil → Anq, nil_append → Anr, length_cons → Ans, take_append_getElem → Ant, append_assoc → Anu, pairwise_append → Anv, mem_of_getElem? → Anw, length_filter_le → Anx, length_range → Anz, pairwise_cons → An0, findSome?_eq_none_iff → An1, getElem_take → An2, take_length → An3
open Int renaming toNat_natCast → An4, eq_ofNat_of_zero_le → An5
open Bool renaming and_eq_true → An6, eq_iff_iff → An7, or_eq_true → An8
namespace Go.Proofs.YtfcpkcehecmcpaaGreat
open Go Go.RowKit Go.Pv
theorem Tt {l : List A9} {n : Nat} (R : Ee l n) : ∀ (k : Nat) (c : Int) (us bs : List Nat) (x : Nat), c < k → c < n → c < l.length → Dh l c = us ++ x :: bs → Dh l (x : Int) = x :: bs
 | 0, c, us, bs, x, hk, hn, hl, h => by rw [GV (by omega)] at h; simp at h
 | k + 1, c, us, bs, x, hk, hn, hl, h => by
  by_cases h0 : 0 ≤ c
  ·obtain ⟨c, rfl⟩ := An5 h0
   have hr := R c (by omega) (by omega)
   have hc := J6 R c (by omega) (by omega)
   cases us with
   | nil =>
    rw [Anr] at h
    have : c = x := by rw [hc] at h; injection h
    rw [← this] at h ⊢
    exact h
   | cons a us =>
    rw [hc, List.cons_append] at h
    injection h with _ h
    exact Tt R k l[c].Bn us bs x (by omega) (by omega) (by omega) h
  ·rw [GV (by omega)] at h; simp at h
theorem Ac8 {l : List A9} {c : Nat} (h : c < l.length) (h32 : c ≤ 32) : tv l (Tx c) = true := by
 unfold tv
 rw [Sk h32]
 simp
 omega
theorem tv5 (l : List A9) : tv l 5 = true := by unfold tv; rfl
theorem le5 {l : List A9} {a : UInt8} (h : tv l a = true) (hr : rf a = true) : Le l a 5 := ⟨h, tv5 l, Or.inr (Or.inr (Or.inr (Or.inl ⟨hr, rfl⟩)))⟩
theorem Wj (l : List A9) (G : Good l) {a b : UInt8} (ha : tv l a = true) (hb : tv l b = true) : Lub l a b (LH l a b) := by
 have hfew := G.few
 have hra := Kq a
 have hrb := Kq b
 unfold LH
 rw [Ay (by rw [ha, hb]; simp)]
 by_cases h1 : Le l a b
 ·rw [A1 h1]; exact ⟨h1, Le.refl hb, fun t _ h => h⟩
 rw [Ay h1]
 by_cases h2 : Le l b a
 ·rw [A1 h2]; exact ⟨Le.refl ha, h2, fun t h _ => h⟩
 rw [Ay h2]
 have t0 : tv l 0 = true := by unfold tv; rfl
 by_cases h3 : rf a = false ∨ rf b = false
 ·rw [A1 h3]
  refine ⟨Le.top ha rfl, Le.top hb rfl, fun t hat hbt => Le.top t0 ?_⟩
  rcases h3 with h3 | h3
  ·have hn : ¬ (a.toNat = 3 ∨ a.toNat = 4 ∨ a.toNat = 5 ∨ 16 ≤ a.toNat) := fun h => by rw [hra.2 h] at h3; cases h3
   rcases hat.2.2 with q | q | q | q | q
   ·rw [← q] at hbt; exact absurd hbt h2
   ·exact q
   ·omega
   ·rw [h3] at q; cases q.1
   ·omega
  ·have hn : ¬ (b.toNat = 3 ∨ b.toNat = 4 ∨ b.toNat = 5 ∨ 16 ≤ b.toNat) := fun h => by rw [hrb.2 h] at h3; cases h3
   rcases hbt.2.2 with q | q | q | q | q
   ·rw [← q] at hat; exact absurd hat h1
   ·exact q
   ·omega
   ·rw [h3] at q; cases q.1
   ·omega
 rw [Ay h3]
 have ra : rf a = true := by rcases h : rf a with _ | _; exact absurd (Or.inl h) h3; rfl
 have rb : rf b = true := by rcases h : rf b with _ | _; exact absurd (Or.inr h) h3; rfl
 have na3 : a.toNat ≠ 3 := fun h => h1 ⟨ha, hb, Or.inr (Or.inr (Or.inl ⟨h, rb⟩))⟩
 have nb3 : b.toNat ≠ 3 := fun h => h2 ⟨hb, ha, Or.inr (Or.inr (Or.inl ⟨h, ra⟩))⟩
 have na5 : a.toNat ≠ 5 := fun h => h2 ⟨hb, ha, Or.inr (Or.inr (Or.inr (Or.inl ⟨rb, h⟩)))⟩
 have nb5 : b.toNat ≠ 5 := fun h => h1 ⟨ha, hb, Or.inr (Or.inr (Or.inr (Or.inl ⟨ra, h⟩)))⟩
 have hra' := hra.1 ra
 have hrb' := hrb.1 rb
 -- what both are of
 have ub : ∀ t, Le l a t → Le l b t → t.toNat = 0 ∨ t.toNat = 5 ∨ (16 ≤ a.toNat ∧ 16 ≤ b.toNat ∧ 16 ≤ t.toNat ∧ (t.toNat - 16) ∈ Dh l ((a.toNat - 16 : Nat) : Int) ∧ (t.toNat - 16) ∈ Dh l ((b.toNat - 16 : Nat) : Int)) := by
  intro t hat hbt
  rcases hat.2.2 with q | q | q | q | q
  ·rw [← q] at hbt; exact absurd hbt h2
  ·exact Or.inl q
  ·exact absurd q.1 na3
  ·exact Or.inr (Or.inl q.2)
  ·rcases hbt.2.2 with p | p | p | p | p
   ·rw [← p] at hat; exact absurd hat h1
   ·exact Or.inl p
   ·exact absurd p.1 nb3
   ·exact Or.inr (Or.inl p.2)
   ·exact Or.inr (Or.inr ⟨q.1, p.1, q.2.1, q.2.2, p.2.2⟩)
 have l5 : ∀ t : UInt8, t.toNat = 5 → t = 5 := fun t h => UInt8.toNat_inj.1 h
 by_cases h16 : 16 ≤ a.toNat ∧ 16 ≤ b.toNat
 ·rw [A1 h16]
  have e2 := (LA ha h16.1).2
  have e4 := (LA hb h16.2).2
  unfold meet
  rcases hf : (Dh l ((a.toNat - 16 : Nat) : Int)).find? (fun c => decide (c ∈ Dh l ((b.toNat - 16 : Nat) : Int))) with _ | c
  ·refine ⟨le5 ha ra, le5 hb rb, fun t hat hbt => ?_⟩
   rcases ub t hat hbt with q | q | q
   ·exact Le.top (tv5 l) q
   ·rw [l5 t q]; exact Le.refl (tv5 l)
   ·have := (List.find?_eq_none.1 hf) _ q.2.2.2.1
    exact absurd (decide_eq_true q.2.2.2.2) this
  ·obtain ⟨hc, us, bs, hl, hn⟩ := List.find?_eq_some_iff_append.1 hf
   have hcM := of_decide_eq_true hc
   have hcL : c ∈ Dh l ((a.toNat - 16 : Nat) : Int) := by rw [hl]; simp
   have hcl := (Mg G.right (a.toNat + 1) _ (by omega) (by omega) (by omega) c hcL).2
   have htv := Ac8 hcl (by omega)
   have hn16 := Sk (c := c) (by omega)
   show Lub l a b (Tx c)
   have hsuf := Tt G.right (a.toNat + 1) _ us bs c (by omega) (by omega) (by omega) hl
   refine ⟨⟨ha, htv, Or.inr (Or.inr (Or.inr (Or.inr ⟨h16.1, by omega, by rw [hn16, Nat.add_sub_cancel_left]; exact hcL⟩)))⟩, ⟨hb, htv, Or.inr (Or.inr (Or.inr (Or.inr ⟨h16.2, by omega, by rw [hn16, Nat.add_sub_cancel_left]; exact hcM⟩)))⟩, fun t hat hbt => ?_⟩
   rcases ub t hat hbt with q | q | q
   ·exact Le.top htv q
   ·rw [l5 t q]; exact le5 htv ((Kq _).2 (by omega))
   ·refine ⟨htv, hat.2.1, Or.inr (Or.inr (Or.inr (Or.inr ⟨by omega, q.2.2.1, ?_⟩)))⟩
    rw [hn16, Nat.add_sub_cancel_left, hsuf]
    have hm := q.2.2.2.1
    rw [hl] at hm
    rcases List.mem_append.1 hm with hm | hm
    ·have := hn _ hm
     rw [decide_eq_true q.2.2.2.2] at this
     cases this
    ·exact hm
 ·rw [Ay h16]
  refine ⟨le5 ha ra, le5 hb rb, fun t hat hbt => ?_⟩
  rcases ub t hat hbt with q | q | q
  ·exact Le.top (tv5 l) q
  ·rw [l5 t q]; exact Le.refl (tv5 l)
  ·exact absurd ⟨q.1, q.2.1⟩ h16
end Go.Proofs.YtfcpkcehecmcpaaGreat
namespace Go.Proofs.YtfcpkcehecmcpaaGreat
open Go Go.RowKit Go.Pv
def Kx (l : List A9) : List UInt8 := ((List.range 256).filter fun (i : Nat) => tv l (E2 (i : Int))).map fun (i : Nat) => E2 (i : Int)
theorem Ah9 (l : List A9) : LQ l = some (Kx l) := by
 have := GE 256 (body := I4 l) (fun n => (((List.range n).filter fun (i : Nat) => tv l (E2 (i : Int))).map fun (i : Nat) => E2 (i : Int), (n : Int))) (r := Kx l) (fun i hi => by
  unfold I4
  have hlen : ((List.range i).filter fun (i : Nat) => tv l (E2 (i : Int))).length ≤ i := by
   have := Anx (fun (i : Nat) => tv l (E2 (i : Int))) (List.range i)
   rw [Anz] at this
   exact this
  dsimp only
  rw [A1 (by rw [Az]; omega), K8, Am6, Anp, Ann, Anm, CU (by omega)]
  rcases ht : tv l (E2 (i : Int)) with _ | _
  ·rw [Ay (by simp), Ano, ht]
   simp
  ·rw [A1 rfl, C9 (by simp only [Ana, Anb]; omega), Am6, Ano, ht]
   simp) (by
  unfold I4
  dsimp only
  rw [Ay (by rw [Az]; omega)]
  rfl) (s0 := ([], 0)) rfl
 unfold LQ
 rw [this, Am6]
theorem W3 (l : List A9) (a b : UInt8) (t : UInt8) : ∀ (L : List UInt8) (s : UInt8), NL l a b (L ++ [t]) s = if Le l a t ∧ Le l b t ∧ Le l t (NL l a b L s) then t else NL l a b L s
 | [], s => rfl
 | x :: L, s => by
  rw [List.cons_append, NL, W3 l a b t L]
  rfl
theorem Afc {l : List A9} {t : UInt8} (h : tv l t = true) : t ∈ Kx l := by
 unfold Kx
 have e : E2 (t.toNat : Int) = t := UInt8.toNat_inj.1 (S8 t.toNat_lt)
 refine List.mem_map.2 ⟨t.toNat, List.mem_filter.2 ⟨List.mem_range.2 t.toNat_lt, ?_⟩, e⟩
 rw [e]; exact h
theorem Ac4 (l : List A9) (G : Good l) (a b : UInt8) : K7 l a b = some (LH l a b) := by
 have hlen : (Kx l).length ≤ 256 := by
  unfold Kx
  rw [Ana]
  have := Anx (fun (i : Nat) => tv l (E2 (i : Int))) (List.range 256)
  rw [Anz] at this
  exact this
 have hl := GE (Kx l).length (body := Gz l a b (Kx l)) (fun i => (NL l a b ((Kx l).take i) 0, (i : Int))) (r := NL l a b (Kx l) 0) (fun i hi => by
  unfold Gz
  dsimp only
  rw [A1 (by rw [Az]; omega), Bv hi, Am6, SV l G, Am6, SV l G, SV l G, CU (by omega),
   show (Kx l).take (i + 1) = (Kx l).take i ++ [(Kx l)[i]] by rw [List.take_add_one, Am8 hi]; rfl, W3]
  by_cases h1 : Le l a (Kx l)[i]
  ·rw [A1 (by simpa using h1), Am6]
   by_cases h2 : Le l b (Kx l)[i]
   ·rw [A1 (by simpa using h2), Am6]
    by_cases h3 : Le l (Kx l)[i] (NL l a b ((Kx l).take i) 0)
    ·rw [A1 (by simpa using h3), A1 ⟨h1, h2, h3⟩]
    ·rw [Ay (by simpa using h3), Ay (fun h => h3 h.2.2)]
   ·rw [Ay (by simpa using h2), Ay (fun h => h2 h.2.1)]
  ·rw [Ay (by simpa using h1), Ay (fun h => h1 h.1)]) (by
  unfold Gz
  dsimp only
  rw [Ay (by rw [Az]; omega), An3]) (s0 := (0, 0)) rfl
 unfold K7
 rw [Ah9, Am6, hl, Am6]
 congr 1
 by_cases h : tv l a = false ∨ tv l b = false
 ·rw [Wd h]
  unfold LH
  rw [A1 h]
 ·have ha : tv l a = true := by rcases q : tv l a with _ | _; exact absurd (Or.inl q) h; rfl
  have hb : tv l b = true := by rcases q : tv l b with _ | _; exact absurd (Or.inr q) h; rfl
  have hm := Wj l G ha hb
  exact TL G hm _ _ (Le.top ha rfl) (Le.top hb rfl) (Or.inr (Afc hm.left.2.1))
end Go.Proofs.YtfcpkcehecmcpaaGreat
namespace Go.Proofs.YtfcpkcehecmcpaaGreat
open Go Go.RowKit Go.Pv
theorem Ae7 (e : AD) (x : Bq) : EN e x = ES e x := by
 funext s
 unfold EN ES
 simp only [QS, Nq, Am6]
theorem Afy (e : AD) : EQ e = ER e := by
 funext s
 unfold EQ ER
 simp only [QS, Nq, Am6, Ae7]
theorem Aka (e : AD) (h : FB e.Classes) : Iw e = Ia e := by
 unfold Iw Ia
 rw [WO _ h, Mm _ h, Afy]
theorem Adn (l : List A9) (ps : List UInt8) : Gs l ps = DI l ps := by
 funext s
 unfold Gs DI
 by_cases h : decide (s.2 < (ps.length : Int)) = true
 ·rw [A1 h, A1 h]
  rcases idx ps s.2 with _ | t
  ·rfl
  ·simp only [Am6, JC, T0]
   have e0 : ((t.toNat : Int) == 0) = decide (t.toNat = 0) := BR _ 0
   have e3 : ((t.toNat : Int) == 3) = decide (t.toNat = 3) := BR _ 3
   rw [e0, e3]
   unfold st
   rcases tv l t with _ | _
   ·simp
   ·by_cases h0 : t.toNat = 0
    ·simp [h0]
    ·by_cases h3 : t.toNat = 3
     ·simp [h3]
     ·simp [h0, h3]
 ·rw [Ay h, Ay h]
theorem start_eq (l : List A9) (ps : List UInt8) (n : Int) : Jt l ps n = CZ l ps n := by
 unfold Jt CZ MH II
 rw [Adn]
def P7 (l : List A9) (s : Bq) : Bool := s.B5.all (st l) && (decide (s.Result.toNat = 0) || st l s.Result)
theorem Oi (l : List A9) (s : Bq) (h : s.B5.length ≤ 8) : Ka l s = some (P7 l s) := by
 unfold Ka P7
 have hl := FO (R := Bool ⊕ Unit) s.B5.length (body := Gi l s) (fun i => (Kb s.B5 (fun t => !st l t) i).map fun _ => .inl false) (r0 := .inr ()) (fun i hi => by
  unfold Gi
  rw [A1 (by rw [Az]; omega), Bv hi, Am6, Py, Am6, CU (by omega), Mh hi]
  split <;> rfl) (by
  unfold Gi
  rw [Ay (by rw [Az]; omega)])
 rw [hl, Am6, IX]
 have hn := O5 s.B5 fun t => !st l t
 have e0 : ((s.Result.toNat : Int) == 0) = decide (s.Result.toNat = 0) := BR _ 0
 rw [Py, Am6, A1 (by rw [Az]; omega), e0]
 rcases hf : (List.range s.B5.length).findSome? (Kb s.B5 fun t => !st l t) with _ | r
 ·have ha : s.B5.all (st l) = true := by
   have := hn.1 hf
   rw [List.all_eq_true]
   intro t ht
   rw [List.any_eq_false] at this
   simpa using this t ht
  rw [ha]
  by_cases h0 : s.Result.toNat = 0
  ·simp [h0]
  ·simp [h0]
 ·have ha : s.B5.all (st l) = false := by
   rcases hb : s.B5.all (st l) with _ | _
   ·rfl
   ·rw [List.all_eq_true] at hb
    have : (s.B5.any fun t => !st l t) = false := by
     rw [List.any_eq_false]
     intro t ht; simp [hb t ht]
    rw [hn.2 this] at hf; cases hf
  rw [ha]; rfl
theorem Afp (e : AD) (ps : List UInt8) (h : ps.length ≤ 8) : Ci ps e = some (ps.any fun t => !st e.Classes t) := by
 unfold Ci
 obtain ⟨r, h1, h2, _⟩ := KL ps (fun t => !st e.Classes t) (body := BG ps e) (fun i hi => by
  unfold BG
  rw [A1 (by rw [Az]; omega), Bv hi, Am6, ZS, Am6, CU (by omega)]) (by
  unfold BG
  rw [Ay (by rw [Az]; omega)])
 have h1' : CM ps e = some r := h1
 rw [show (⟨e.Classes, e.AP, e.Fn⟩ : AD) = e from rfl, h1', Am6, h2]
theorem Ahx (e : AD) (hs : e.AP.length ≤ 64) : Js e = Cz e := by
 funext s
 unfold Js Cz
 by_cases h : decide (s < (e.AP.length : Int)) = true
 ·rw [A1 h, A1 h]
  rcases hx : idx e.AP s with _ | x
  ·rfl
  ·simp only [Am6]
   by_cases h8 : decide ((x.B5.length : Int) > 8) = true
   ·rw [A1 h8, A1 h8]
   ·rw [Ay h8, Ay h8]
    have h8' : x.B5.length ≤ 8 := by rw [Az] at h8; omega
    rw [Afp _ _ h8', Oi _ _ h8', Am6, Am6, ZS, Am6]
    have e0 : ((x.Result.toNat : Int) != 0) = !decide (x.Result.toNat = 0) := by
     rw [show ((x.Result.toNat : Int) != 0) = !((x.Result.toNat : Int) == 0) from rfl]
     have : ((x.Result.toNat : Int) == 0) = decide (x.Result.toNat = 0) := BR _ 0
     rw [this]
    rw [e0]
    unfold P7
    dsimp only
    have ha : (x.B5.any fun t => !st e.Classes t) = !(x.B5.all (st e.Classes)) := by
     rw [An7, List.any_eq_true, Bool.not_eq_true', List.all_eq_false]
     simp
    rw [ha]
    rcases x.B5.all (st e.Classes) with _ | _
    ·simp
    ·rcases st e.Classes x.Result with _ | _ <;> by_cases h0 : x.Result.toNat = 0 <;> simp [h0]
 ·rw [Ay h, Ay h]
theorem Ad1 (e : AD) (n : Int) (h : FB e.Classes) : KF e n = Du e n := by
 unfold KF Du
 rw [WO _ h, Mm _ h, Am6, Am6]
 by_cases h1 : ((LG e.Classes).2 != 0) = true
 ·rw [A1 h1, A1 h1]
 rw [Ay h1, Ay h1]
 by_cases h2 : decide ((e.AP.length : Int) > 64) = true
 ·rw [A1 h2, A1 h2]
 rw [Ay h2, Ay h2, Ahx e (by rw [Az] at h2; omega)]
 simp only [start_eq]
end Go.Proofs.YtfcpkcehecmcpaaGreat
namespace Go.Proofs.YtfcpkcehecmcpaaGreat
open Go Go.RowKit Go.Pv
structure Dg (e : AD) : Prop where
 ok : (LG e.Classes).2 = 0
 good : Good e.Classes
 few : e.AP.length ≤ 64
 sigs : ∀ s ∈ e.AP, s.B5.length ≤ 8 ∧ P7 e.Classes s = true
 fn : 0 ≤ e.Fn ∧ e.Fn < e.AP.length
def Rh (e : AD) (i : Nat) : Option Int := match e.AP[i]? with
 | none => none
 | some s => if 8 < s.B5.length then some 4 else if P7 e.Classes s = false then some 22 else none
theorem Adx (e : AD) (n : Int) (h : FB e.Classes) (hm : Du e n = some 0) : Dg e ∧ ∃ s f, idx e.AP e.Fn = some s ∧ CZ e.Classes s.B5 n = some (f, 0) := by
 unfold Du at hm
 rw [Mm _ h, Am6] at hm
 by_cases h1 : ((LG e.Classes).2 != 0) = true
 ·rw [A1 h1] at hm
  rw [AN] at h1
  exact absurd (Option.some.inj hm) h1
 rw [Ay h1] at hm
 have hg := Ahn h (by simpa using h1)
 by_cases h2 : decide ((e.AP.length : Int) > 64) = true
 ·rw [A1 h2] at hm; cases hm
 rw [Ay h2] at hm
 have h64 : e.AP.length ≤ 64 := by rw [Az] at h2; omega
 have hl := FO (R := Int ⊕ Unit) e.AP.length (body := Cz e) (fun i => (Rh e i).map .inl) (r0 := .inr ()) (fun i hi => by
  unfold Cz Rh
  rw [A1 (by rw [Az]; omega), Bv hi, Am6, Am8 hi, Am6]
  dsimp only
  by_cases h8 : 8 < e.AP[i].B5.length
  ·rw [A1 (by rw [Az]; omega), A1 h8]; rfl
  ·rw [Ay (by rw [Az]; omega), Ay h8, Oi _ _ (by omega), Am6, CU (by omega)]
   rcases P7 e.Classes e.AP[i] with _ | _ <;> rfl) (by
  unfold Cz
  rw [Ay (by rw [Az]; omega)])
 rw [hl, Am6, IX, Qk] at hm
 rcases hf : (List.range e.AP.length).findSome? (Rh e) with _ | r
 ·rw [hf] at hm
  dsimp only at hm
  by_cases h3 : decide (e.Fn < 0) = true
  ·rw [A1 h3] at hm; cases hm
  rw [Ay h3] at hm
  by_cases h4 : decide (e.Fn ≥ (e.AP.length : Int)) = true
  ·rw [A1 h4] at hm; cases hm
  rw [Ay h4] at hm
  rw [Az] at h3 h4
  obtain ⟨s, hs, hm⟩ := bind_ok hm
  obtain ⟨f, hst, hm⟩ := bind_ok hm
  refine ⟨⟨by simpa using h1, hg, h64, fun s hs => ?_, by omega⟩, s, f.1, hs, ?_⟩
  ·obtain ⟨i, hi, rfl⟩ := List.mem_iff_getElem.1 hs
   have := (List.findSome?_eq_none_iff.1 hf) i (List.mem_range.2 hi)
   unfold Rh at this
   rw [Am8 hi] at this
   dsimp only at this
   split at this
   ·cases this
   ·split at this
    ·cases this
    ·rename_i q1 q2
     exact ⟨by omega, by simpa using q2⟩
  ·rw [hst]
   have := Option.some.inj hm
   rw [← this]
 ·rw [hf] at hm
  dsimp only at hm
  obtain ⟨i, hi, hr⟩ := List.exists_of_findSome?_eq_some hf
  unfold Rh at hr
  have := Option.some.inj hm
  subst this
  split at hr
  ·cases hr
  ·repeat' split at hr
   all_goals cases hr
end Go.Proofs.YtfcpkcehecmcpaaGreat
namespace Go.Proofs.YtfcpkcehecmcpaaGreat
open Go Go.RowKit Go.Pv
theorem Wu (e : AD) (s : Bq) (h8 : s.B5.length ≤ 8) (h : s.B5.all (st e.Classes) = true) : AQ (ES e s) 0 = some (.inr ()) := by
 refine RR s.B5 (fun i hi => ?_) ?_
 ·unfold ES
  have ht := (List.all_eq_true.1 h) _ (Anl hi)
  rw [A1 (by rw [Az]; omega), Bv hi, Am6, Nq, Am6, ht, Ay (by simp), CU (by omega)]
 ·unfold ES
  rw [Ay (by rw [Az]; omega)]
theorem ZA (e : AD) (h : Dg e) : Ia e = some true := by
 unfold Ia
 have hf := h.fn
 have hc := h.ok
 have h64 := h.few
 rw [Mm _ h.good.tab, Am6, hc, Ay (by simp), Ay (by rw [Az]; omega), Ay (by rw [Az]; omega), Ay (by rw [Az]; omega)]
 have hl : AQ (ER e) 0 = some (.inr ()) := by
  refine RR e.AP (fun i hi => ?_) ?_
  ·obtain ⟨h8, hs⟩ := h.sigs _ (Anl hi)
   unfold P7 at hs
   rw [An6, An8, Az] at hs
   unfold ER
   rw [A1 (by rw [Az]; omega), Bv hi, Am6, Ay (by rw [Az]; omega), Nq, Am6]
   by_cases h0 : e.AP[i].Result.toNat = 0
   ·rw [Ay (by rw [AN]; omega), Am6]
    dsimp only
    rw [Wu e _ h8 hs.1, Am6, CU (by omega)]
   ·have hr : st e.Classes e.AP[i].Result = true := by rcases hs.2 with q | q; exact absurd q h0; exact q
    rw [A1 (by rw [AN]; omega), hr, Ay (by simp), Am6]
    dsimp only
    rw [Wu e _ h8 hs.1, Am6, CU (by omega)]
  ·unfold ER
   rw [Ay (by rw [Az]; omega)]
 rw [hl]
 rfl
end Go.Proofs.YtfcpkcehecmcpaaGreat
namespace Go.Proofs.YtfcpkcehecmcpaaGreat
open Go Go.RowKit Go.Pv
def Mz (f : A3) : Prop := 0 ≤ f.Locals ∧ f.Locals ≤ 16 ∧ 0 ≤ f.Height ∧ f.Locals + f.Height ≤ 24
instance (f : A3) : Decidable (Mz f) := by unfold Mz; infer_instance
theorem Ob (f : A3) (h : -9223372036854775808 ≤ f.Height ∧ f.Height ≤ 9223372036854775807) : FP f = some (decide (Mz f)) := by
 unfold FP
 have hS : Mz f ↔ (0 ≤ f.Locals ∧ f.Locals ≤ 16 ∧ 0 ≤ f.Height ∧ f.Locals + f.Height ≤ 24) := Iff.rfl
 by_cases h1 : 0 ≤ f.Locals
 ·rw [A1 (by rw [Az]; omega)]
  by_cases h2 : f.Locals ≤ 16
  ·rw [A1 (by rw [Az]; omega)]
   by_cases h3 : 0 ≤ f.Height
   ·rw [A1 (by rw [Az]; omega), Cc (by omega) (by omega)]
    congr 1
    rw [decide_eq_decide, hS]
    omega
   ·rw [Ay (by rw [Az]; omega), decide_eq_false (by rw [hS]; omega)]
  ·rw [Ay (by rw [Az]; omega), decide_eq_false (by rw [hS]; omega)]
 ·rw [Ay (by rw [Az]; omega), decide_eq_false (by rw [hS]; omega)]
theorem Ss (f : A3) : Gl f = some (decide (Mz f)) := by
 unfold Gl
 have hS : Mz f ↔ (0 ≤ f.Locals ∧ f.Locals ≤ 16 ∧ 0 ≤ f.Height ∧ f.Locals + f.Height ≤ 24) := Iff.rfl
 by_cases h1 : 0 ≤ f.Locals
 ·rw [A1 (by rw [Az]; omega)]
  by_cases h2 : f.Locals ≤ 16
  ·rw [A1 (by rw [Az]; omega)]
   by_cases h3 : 0 ≤ f.Height
   ·rw [A1 (by rw [Az]; omega)]
    by_cases h4 : f.Height ≤ 24
    ·rw [A1 (by rw [Az]; omega), Cc (by omega) (by omega)]
     congr 1
     rw [decide_eq_decide, hS]
     omega
    ·rw [Ay (by rw [Az]; omega), decide_eq_false (by rw [hS]; omega)]
   ·rw [Ay (by rw [Az]; omega), decide_eq_false (by rw [hS]; omega)]
  ·rw [Ay (by rw [Az]; omega), decide_eq_false (by rw [hS]; omega)]
 ·rw [Ay (by rw [Az]; omega), decide_eq_false (by rw [hS]; omega)]
theorem XS (v : Vector UInt8 24) (n : Nat) : ∃ w : Vector UInt8 24, ∀ i (h : i < 24), w[i] = if i < n then v[i] else 0 := ⟨Vector.ofFn fun i => if i.val < n then v[i] else 0, fun i h => by simp⟩
noncomputable def SY (v : Vector UInt8 24) (n : Nat) : Vector UInt8 24 := Classical.choose (XS v n)
theorem HK (v : Vector UInt8 24) (n i : Nat) (h : i < 24) : (SY v n)[i] = if i < n then v[i] else 0 := Classical.choose_spec (XS v n) i h
noncomputable def Eb (f : A3) : A3 := ⟨f.Locals, f.Height, SY f.Slots (f.Locals + f.Height).toNat⟩
theorem QD (f : A3) (h0 : 0 ≤ f.Locals + f.Height) (h : f.Locals + f.Height ≤ 24) : HM f = some (Eb f) := by
 unfold HM Eb
 rw [Cc (by omega) (by omega), LD (by simp; omega), Am6]
 have : Pu (Vector.replicate 24 (0 : UInt8)) f.Slots (f.Locals + f.Height).toNat = SY f.Slots (f.Locals + f.Height).toNat := by
  apply Vector.ext
  intro j hj
  unfold Pu
  rw [HK _ _ _ hj, Vector.getElem_ofFn]
  simp
 rw [this]
theorem YL (f : A3) (h0 : 0 ≤ f.Locals + f.Height) (h : f.Locals + f.Height ≤ 24) : Jn f = some (Eb f) := by
 unfold Jn Eb
 rw [Cc (by omega) (by omega)]
 obtain ⟨n, hn⟩ := An5 h0
 rw [hn, An4]
 have hn24 : n ≤ 24 := by omega
 have key : ∀ k i (v : Vector UInt8 24), i + k = 24 → n ≤ i → (∀ j (hj : j < 24), j < i → v[j] = (SY f.Slots n)[j]) → (∀ j (hj : j < 24), ¬ j < i → True) → AQ H6 (v, (i : Int)) = some (SY f.Slots n) := by
  intro k
  induction k with
  | zero =>
   intro i v hi hni hv _
   have hv' : v = SY f.Slots n := Vector.ext fun j hj => hv j hj (by omega)
   rw [← hv', Bm (r := v)]
   ·unfold H6
    dsimp only
    rw [Ay (by rw [Az]; omega)]
  | succ k ih =>
   intro i v hi hni hv _
   have hi24 : i < v.toList.length := by simp; omega
   rw [BQ (s' := (H5 v (i : Int) 0, ((i + 1 : Nat) : Int)))]
   ·refine ih (i + 1) _ (by omega) (by omega) (fun j hj hji => ?_) (fun _ _ _ => trivial)
    unfold H5
    rw [Vector.getElem_setIfInBounds, An4]
    by_cases hij : i = j
    ·rw [A1 hij, HK _ _ _ hj, Ay (by omega)]
    ·rw [Ay hij]; exact hv j hj (by omega)
   ·unfold H6
    dsimp only
    rw [A1 (by rw [Az]; omega), Bv hi24, Am6, CU (by omega)]
 rw [key (24 - n) n f.Slots (by omega) (by omega) (fun j hj hji => by rw [HK _ _ _ hj, A1 hji]) (fun _ _ _ => trivial), Am6]
end Go.Proofs.YtfcpkcehecmcpaaGreat
namespace Go.Proofs.YtfcpkcehecmcpaaGreat
open Go Go.RowKit Go.Pv
def Ae0 (f : A3) : Prop := (-9223372036854775808 ≤ f.Locals ∧ f.Locals ≤ 9223372036854775807) ∧ (-9223372036854775808 ≤ f.Height ∧ f.Height ≤ 9223372036854775807)
noncomputable def Qs (l : List A9) (f : A3) : Int := if ¬ Mz f then 32 else if (Eb f).Slots ≠ f.Slots then 32 else if f.Slots.toList.all (tv l) = true then 0 else 22
theorem Mi (l : List A9) : tv l 0 = true := by unfold tv; rfl
theorem Abj (l : List A9) (f : A3) (h : Ae0 f) : Gn l f = some (Qs l f) := by
 unfold Gn Qs
 rw [show (⟨f.Locals, f.Height, f.Slots⟩ : A3) = f from rfl, Ob f h.2, Am6]
 by_cases hs : Mz f
 ·rw [Ay (by simp [hs]), Ay (by simp [hs])]
  have hs' := hs
  unfold Mz at hs'
  rw [QD f (by omega) (by omega), Am6]
  have he : ((Eb f).Locals == f.Locals && ((Eb f).Height == f.Height && ((Eb f).Slots == f.Slots && true))) = decide ((Eb f).Slots = f.Slots) := by
   have hL : (Eb f).Locals = f.Locals := by unfold Eb; dsimp only
   have hH : (Eb f).Height = f.Height := by unfold Eb; dsimp only
   rw [hL, hH]
   generalize (Eb f).Slots = B
   generalize f.Slots = C
   rw [An7, Az]
   simp
  rw [he]
  by_cases hb : (Eb f).Slots = f.Slots
  ·rw [decide_eq_true hb, Ay (by simp), Ay (by simp [hb])]
   have hl := FO (R := Int ⊕ Unit) 24 (body := FD l f) (fun i => (Kb f.Slots.toList (fun t => !tv l t) i).map fun _ => .inl 22) (r0 := .inr ()) (fun i hi => by
    have hi' : i < f.Slots.toList.length := by simp; omega
    unfold FD
    rw [A1 (by rw [Az]; omega), Bv hi', Am6, JC, Am6, CU (by omega), Mh hi']
    split <;> rfl) (by
    unfold FD
    rw [Ay (by rw [Az]; omega)])
   rw [hl, Am6, IX]
   have hn := O5 f.Slots.toList fun t => !tv l t
   rw [Vector.length_toList] at hn
   rcases hf : (List.range 24).findSome? (Kb f.Slots.toList fun t => !tv l t) with _ | r
   ·have ha : f.Slots.toList.all (tv l) = true := by
     have := hn.1 hf
     rw [List.all_eq_true]
     intro t ht
     rw [List.any_eq_false] at this
     simpa using this t ht
    rw [A1 ha]; rfl
   ·have ha : f.Slots.toList.all (tv l) ≠ true := by
     intro hb2
     rw [List.all_eq_true] at hb2
     have : (f.Slots.toList.any fun t => !tv l t) = false := by
      rw [List.any_eq_false]
      intro t ht; simp [hb2 t ht]
     rw [hn.2 this] at hf; cases hf
    rw [Ay ha]; rfl
  ·rw [decide_eq_false hb, A1 (by simp), A1 hb]
 ·rw [A1 (by simp [hs]), A1 hs]
end Go.Proofs.YtfcpkcehecmcpaaGreat
namespace Go.Proofs.YtfcpkcehecmcpaaGreat
open Go Go.RowKit Go.Pv
theorem NM {R : Type} (n : Nat) {body : Int → Option (Int ⊕ R)} (P : Nat → Option R) {r0 : R} (hs : ∀ i, i < n → body (i : Int) = match P i with | some r => some (.inr r) | none => some (.inl ((i + 1 : Nat) : Int))) (he : body (n : Int) = some (.inr r0)) :
  ∀ k i, i + k = n → (∃ r, (∃ j, i ≤ j ∧ j < n ∧ P j = some r) ∧ AQ body (i : Int) = some r) ∨ ((∀ j, i ≤ j → j < n → P j = none) ∧ AQ body (i : Int) = some r0) := by
 intro k
 induction k with
 | zero => intro i hi; right; exact ⟨fun j h1 h2 => by omega, Bm (by rw [show i = n by omega]; exact he)⟩
 | succ k ih =>
  intro i hi
  have hb := hs i (by omega)
  rcases hP : P i with _ | r
  ·rw [hP] at hb
   rw [BQ hb]
   rcases ih (i + 1) (by omega) with ⟨r, ⟨j, h1, h2, h3⟩, h4⟩ | ⟨h1, h2⟩
   ·exact Or.inl ⟨r, ⟨j, by omega, h2, h3⟩, h4⟩
   ·refine Or.inr ⟨fun j hj hjn => ?_, h2⟩
    by_cases h : j = i
    ·rw [h, hP]
    ·exact h1 j (by omega) hjn
  ·rw [hP] at hb
   exact Or.inl ⟨r, ⟨i, Nat.le_refl i, by omega, hP⟩, Bm hb⟩
def ON (l : List A9) (v : Vector UInt8 24) : Prop := ∀ j (h : j < 24), tv l v[j] = true
theorem Ng (l : List A9) (v : Vector UInt8 24) : v.toList.all (tv l) = true ↔ ON l v := by
 rw [List.all_eq_true]
 constructor
 ·intro h j hj
  exact h _ (by rw [← Vector.getElem_toList (by simpa using hj)]; exact Anl _)
 ·intro h x hx
  obtain ⟨i, hi, rfl⟩ := List.mem_iff_getElem.1 hx
  rw [Vector.getElem_toList]
  exact h i (by simpa using hi)
structure GR (l : List A9) (f : A3) : Prop where
 shp : Mz f
 bare : ∀ j (h : j < 24), (f.Locals + f.Height).toNat ≤ j → f.Slots[j] = 0
 all : ON l f.Slots
theorem NA (f : A3) : (Eb f).Slots = f.Slots ↔ ∀ j (h : j < 24), (f.Locals + f.Height).toNat ≤ j → f.Slots[j] = 0 := by
 unfold Eb
 dsimp only
 constructor
 ·intro h j hj hle
  have := HK f.Slots (f.Locals + f.Height).toNat j hj
  rw [Ay (by omega)] at this
  rw [← this]
  congr 1
  exact h.symm
 ·intro h
  apply Vector.ext
  intro j hj
  rw [HK _ _ _ hj]
  split
  ·rfl
  ·exact (h j hj (by omega)).symm
theorem W0 (l : List A9) (f : A3) : Qs l f = 0 ↔ GR l f := by
 unfold Qs
 by_cases h1 : Mz f
 ·rw [Ay (by simp [h1])]
  by_cases h2 : (Eb f).Slots = f.Slots
  ·rw [Ay (by simp [h2])]
   by_cases h3 : f.Slots.toList.all (tv l) = true
   ·rw [A1 h3]
    exact ⟨fun _ => ⟨h1, (NA f).1 h2, (Ng l _).1 h3⟩, fun _ => rfl⟩
   ·rw [Ay h3]
    exact ⟨fun h => (by cases h), fun h => absurd ((Ng l _).2 h.all) h3⟩
  ·rw [A1 h2]
   exact ⟨fun h => (by cases h), fun h => absurd ((NA f).2 h.bare) h2⟩
 ·rw [A1 h1]
  exact ⟨fun h => (by cases h), fun h => absurd h.shp h1⟩
theorem GR.int {l : List A9} {f : A3} (h : GR l f) : Ae0 f := by
 have := h.shp
 unfold Mz at this
 unfold Ae0
 omega
theorem Rc {l : List A9} {f : A3} (h : GR l f) : Gn l f = some 0 := by
 rw [Abj l f h.int, (W0 l f).2 h]
theorem Aao (l : List A9) (f : A3) : Fo l f = some (Qs l f) := by
 unfold Fo
 rw [show (⟨f.Locals, f.Height, f.Slots⟩ : A3) = f from rfl, Ss f, Am6]
 by_cases hs : Mz f
 ·rw [Ay (by simp [hs])]
  have hs' := hs
  unfold Mz at hs'
  obtain ⟨n, hn⟩ := An5 (show 0 ≤ f.Locals + f.Height by omega)
  have hn24 : n ≤ 24 := by omega
  rw [hn, Ya (by omega)]
  have hl0 := NM (R := Int ⊕ Unit) 24 (body := GL f) (fun i => if h : i < 24 then (if f.Slots[i] = 0 then none else some (.inl 32)) else none) (r0 := .inr ()) (fun i hi => by
   have hi' : i < f.Slots.toList.length := by simp; omega
   unfold GL
   rw [A1 (by rw [Az]; omega), Bv hi', Am6, CU (by omega), dif_pos hi, Vector.getElem_toList]
   by_cases h0 : f.Slots[i] = 0
   ·rw [A1 h0, Ay (by rw [h0]; simp)]
   ·rw [Ay h0, A1]
    rw [AN]
    intro h
    apply h0
    apply UInt8.toNat_inj.1
    simpa using h) (by
   unfold GL
   rw [Ay (by rw [Az]; omega)]) (24 - n) n (by omega)
  rcases hl0 with ⟨r, ⟨j, hj1, hj2, hj3⟩, hl⟩ | ⟨hb, hl⟩
  ·rw [dif_pos hj2] at hj3
   have h0 : f.Slots[j] ≠ 0 := by intro h; rw [A1 h] at hj3; cases hj3
   rw [Ay h0] at hj3
   cases hj3
   rw [hl, Am6]
   have hc : Qs l f = 32 := by
    unfold Qs
    rw [Ay (by simp [hs]), A1]
    intro h
    exact h0 ((NA f).1 h j hj2 (by rw [hn, An4]; exact hj1))
   rw [hc]
  ·rw [hl, Am6]
   have hb' : ∀ j (h : j < 24), (f.Locals + f.Height).toNat ≤ j → f.Slots[j] = 0 := by
    intro j hj hle
    rw [hn, An4] at hle
    have := hb j hle hj
    rw [dif_pos hj] at this
    by_cases h0 : f.Slots[j] = 0
    ·exact h0
    ·rw [Ay h0] at this; cases this
   have hl1 := NM (R := Int ⊕ Unit) n (body := G9 l f) (fun i => if h : i < 24 then (if tv l f.Slots[i] = true then none else some (.inl 22)) else none) (r0 := .inr ()) (fun i hi => by
    have hi' : i < f.Slots.toList.length := by simp; omega
    have hi24 : i < 24 := by omega
    unfold G9
    rw [hn, Ya (by omega), A1 (by rw [Az]; omega), Bv hi', Am6, K8, Am6, CU (by omega), dif_pos hi24, Vector.getElem_toList]
    rcases ht : tv l f.Slots[i] with _ | _
    ·rfl
    ·rfl) (by
    unfold G9
    rw [hn, Ya (by omega), Ay (by rw [Az]; omega)]) n 0 (by omega)
   have he : (Eb f).Slots = f.Slots := (NA f).2 hb'
   unfold Qs
   rw [Ay (by simp [hs]), Ay (by simp [he])]
   rcases hl1 with ⟨r, ⟨j, hj1, hj2, hj3⟩, hl⟩ | ⟨ha, hl⟩
   ·have hj24 : j < 24 := by omega
    rw [dif_pos hj24] at hj3
    have h0 : tv l f.Slots[j] ≠ true := by intro h; rw [A1 h] at hj3; cases hj3
    rw [Ay h0] at hj3
    cases hj3
    rw [show ((0 : Nat) : Int) = 0 from rfl] at hl
    rw [hl, Am6, Ay]
    intro h
    exact h0 ((Ng l _).1 h j hj24)
   ·rw [show ((0 : Nat) : Int) = 0 from rfl] at hl
    rw [hl, Am6, A1]
    rw [Ng]
    intro j hj
    by_cases hjn : j < n
    ·have := ha j (by omega) hjn
     rw [dif_pos hj] at this
     by_cases h0 : tv l f.Slots[j] = true
     ·exact h0
     ·rw [Ay h0] at this; cases this
    ·rw [hb' j hj (by rw [hn, An4]; omega)]
     exact Mi l
 ·rw [A1 (by simp [hs])]
  unfold Qs
  rw [A1 hs]
theorem QC {l : List A9} {f : A3} (h : GR l f) : Fo l f = some 0 := by
 rw [Aao, (W0 l f).2 h]
end Go.Proofs.YtfcpkcehecmcpaaGreat
namespace Go.Proofs.YtfcpkcehecmcpaaGreat
open Go Go.RowKit Go.Pv
abbrev zf : A3 := ⟨0, 0, Vector.replicate 24 (0 : UInt8)⟩
structure Fb (f : A3) : Prop where
 shp : Mz f
 bare : ∀ j (h : j < 24), (f.Locals + f.Height).toNat ≤ j → f.Slots[j] = 0
theorem GR.fb {l : List A9} {f : A3} (h : GR l f) : Fb f := ⟨h.shp, h.bare⟩
theorem Fb.num {f : A3} (h : Fb f) : 0 ≤ f.Locals ∧ f.Locals ≤ 16 ∧ 0 ≤ f.Height ∧ f.Locals + f.Height ≤ 24 := h.shp
theorem MZ (v : Vector UInt8 24) (i : Nat) (x : UInt8) (j : Nat) (hj : j < 24) : (H5 v (i : Int) x)[j] = if i = j then x else v[j] := by
 unfold H5
 rw [Vector.getElem_setIfInBounds, An4]
theorem Jz (v : Vector UInt8 24) (i : Nat) (h : i < 24) : idx v.toList (i : Int) = some v[i] := by
 rw [Bv (by simpa using h), Vector.getElem_toList]
theorem Qp {f : A3} (h : Fb f) : Eb f = f := by
 have := (NA f).2 h.bare
 obtain ⟨L, H, S⟩ := f
 unfold Eb at *
 dsimp only at *
 rw [this]
noncomputable def Dx (f : A3) (n : Nat) : A3 := Eb ⟨f.Locals, f.Height - n, f.Slots⟩
theorem VZ {f : A3} (h : Fb f) : Dx f 0 = f := by
 unfold Dx
 rw [show f.Height - ((0 : Nat) : Int) = f.Height by omega]
 exact Qp h
theorem SG {f : A3} (h : Fb f) (n : Nat) (hn : n ≤ f.Height) : Fb (Dx f n) := by
 have hh := h.num
 refine ⟨?_, fun j hj hle => ?_⟩
 ·unfold Mz Dx Eb
  dsimp only
  omega
 ·unfold Dx Eb at *
  dsimp only at *
  rw [HK _ _ _ hj, Ay (by omega)]
theorem Aev {l : List A9} {f : A3} (h : ON l f.Slots) (n : Nat) : ON l (Dx f n).Slots := by
 intro j hj
 unfold Dx Eb
 dsimp only
 rw [HK _ _ _ hj]
 split
 ·exact h j hj
 ·exact Mi l
theorem Adk {f : A3} (n : Nat) (hn : 0 ≤ f.Locals + f.Height - (n + 1)) : Eb ⟨(Dx f n).Locals, (Dx f n).Height - 1, (Dx f n).Slots⟩ = Dx f (n + 1) := by
 unfold Dx Eb
 dsimp only
 congr 1
 ·omega
 ·apply Vector.ext
  intro j hj
  rw [HK _ _ _ hj, HK _ _ _ hj, HK _ _ _ hj]
  by_cases h1 : j < (f.Locals + (f.Height - ((n + 1 : Nat) : Int))).toNat
  ·rw [A1 (by omega), A1 h1, A1 (by omega)]
  ·rw [Ay (by omega), Ay h1]
def Kj (f : A3) (t : UInt8) : A3 := ⟨f.Locals, f.Height + 1, H5 f.Slots (f.Locals + f.Height) t⟩
def Qn (f : A3) (i : Int) (t : UInt8) : A3 := ⟨f.Locals, f.Height, H5 f.Slots i t⟩
theorem Yk {f : A3} (h : Fb f) (t : UInt8) (hn : f.Locals + f.Height ≠ 24) : Fb (Kj f t) := by
 have hh := h.num
 obtain ⟨n, hn'⟩ := An5 (show 0 ≤ f.Locals + f.Height by omega)
 refine ⟨?_, fun j hj hle => ?_⟩
 ·unfold Mz Kj
  dsimp only
  omega
 ·unfold Kj at *
  dsimp only at *
  rw [hn', MZ _ _ _ _ hj, Ay (by omega)]
  exact h.bare j hj (by omega)
theorem Ab8 {l : List A9} {f : A3} (hb : Fb f) (h : ON l f.Slots) {t : UInt8} (ht : tv l t = true) : ON l (Kj f t).Slots := by
 have hh := hb.num
 obtain ⟨n, hn'⟩ := An5 (show 0 ≤ f.Locals + f.Height by omega)
 intro j hj
 unfold Kj
 dsimp only
 rw [hn', MZ _ _ _ _ hj]
 split
 ·exact ht
 ·exact h j hj
theorem VF {f : A3} (h : Fb f) (t : UInt8) {i : Int} (h0 : 0 ≤ i) (hi : i < f.Locals) : Fb (Qn f i t) := by
 have hh := h.num
 obtain ⟨n, rfl⟩ := An5 h0
 refine ⟨?_, fun j hj hle => ?_⟩
 ·unfold Mz Qn
  dsimp only
  omega
 ·unfold Qn at *
  dsimp only at *
  rw [MZ _ _ _ _ hj, Ay (by omega)]
  exact h.bare j hj hle
theorem Af9 {l : List A9} {f : A3} (h : ON l f.Slots) {t : UInt8} (ht : tv l t = true) {i : Int} (h0 : 0 ≤ i) : ON l (Qn f i t).Slots := by
 obtain ⟨n, rfl⟩ := An5 h0
 intro j hj
 unfold Qn
 dsimp only
 rw [MZ _ _ _ _ hj]
 split
 ·exact ht
 ·exact h j hj
theorem Fb.h {f : A3} (h : Fb f) : -9223372036854775808 ≤ f.Height ∧ f.Height ≤ 9223372036854775807 := by have := h.num; omega
theorem Z9 {f : A3} (h : Fb f) (n : Nat) (hn : n < f.Height) : ∃ x, La f (n : Int) = some (x, 0) ∧ f.Slots.toList[(f.Locals + f.Height).toNat - 1 - n]? = some x := by
 have hh := h.num
 obtain ⟨k, hk⟩ := An5 (show 0 ≤ f.Locals + f.Height - 1 - n by omega)
 have hk24 : k < 24 := by omega
 refine ⟨f.Slots[k], ?_, ?_⟩
 ·unfold La
  rw [show (⟨f.Locals, f.Height, f.Slots⟩ : A3) = f from rfl, Ob f h.h, Am6, Ay (by simp [h.shp]), Ay (by rw [Az]; omega), Ay (by rw [Az]; omega)]
  rw [Cc (n := f.Locals + f.Height) (by omega) (by omega), Cc (n := f.Locals + f.Height - 1) (by omega) (by omega), Cc (by omega) (by omega), hk, Jz _ _ hk24, Am6]
 ·rw [show (f.Locals + f.Height).toNat - 1 - n = k by omega, Am8 (by simpa using hk24), Vector.getElem_toList]
theorem Ah2 {f : A3} (h : Fb f) (hn : 0 < f.Height) : ∃ x, M9 f = some (Dx f 1, x, 0) := by
 have hh := h.num
 obtain ⟨x, hx, _⟩ := Z9 h 0 (by omega)
 refine ⟨x, ?_⟩
 unfold M9
 rw [show (⟨f.Locals, f.Height, f.Slots⟩ : A3) = f from rfl, show (0 : Int) = ((0 : Nat) : Int) from rfl, hx, Am6]
 dsimp only
 rw [Ay (by simp), Cc (by omega) (by omega), QD _ (by dsimp only; omega) (by dsimp only; omega), Am6]
 rfl
theorem Aih {f : A3} (h : Fb f) (hn : 0 < f.Height) : ∃ x, LW f = some (Dx f 1, x, 0) := by
 have hh := h.num
 obtain ⟨k, hk⟩ := An5 (show 0 ≤ f.Locals + f.Height - 1 by omega)
 have hk24 : k < 24 := by omega
 refine ⟨f.Slots[k], ?_⟩
 unfold LW
 rw [show (⟨f.Locals, f.Height, f.Slots⟩ : A3) = f from rfl, Ss f, Am6, Ay (by simp [h.shp]), Ay (by rw [AG]; omega)]
 rw [Cc (n := f.Locals + f.Height) (by omega) (by omega), Cc (n := f.Locals + f.Height - 1) (by omega) (by omega), hk, Jz _ _ hk24, Am6, Cc (by omega) (by omega), YL _ (by dsimp only; omega) (by dsimp only; omega), Am6]
 rfl
theorem Ael {f : A3} (h : Fb f) (t : UInt8) : Ly f t = some (if f.Locals + f.Height = 24 then (zf, 31) else (Kj f t, 0)) := by
 have hh := h.num
 unfold Ly
 rw [show (⟨f.Locals, f.Height, f.Slots⟩ : A3) = f from rfl, Ob f h.h, Am6, Ay (by simp [h.shp]), Cc (by omega) (by omega)]
 by_cases h24 : f.Locals + f.Height = 24
 ·rw [A1 (by rw [AG]; omega), A1 h24]
 ·rw [Ay (by rw [AG]; omega), Ay h24, QD f (by omega) (by omega), Am6, Qp h, Cc (n := f.Locals + f.Height) (by omega) (by omega)]
  obtain ⟨k, hk⟩ := An5 (show 0 ≤ f.Locals + f.Height by omega)
  rw [hk, Jz _ _ (by omega), Am6, Cc (by omega) (by omega)]
  unfold Kj
  rw [hk]
theorem Afh {f : A3} (h : Fb f) (t : UInt8) : Lp f t = some (if f.Locals + f.Height = 24 then (zf, 31) else (Kj f t, 0)) := by
 have hh := h.num
 unfold Lp
 rw [show (⟨f.Locals, f.Height, f.Slots⟩ : A3) = f from rfl, Ss f, Am6, Ay (by simp [h.shp]), Cc (by omega) (by omega)]
 by_cases h24 : f.Locals + f.Height = 24
 ·rw [A1 (by rw [AG]; omega), A1 h24]
 ·rw [Ay (by rw [AG]; omega), Ay h24, YL f (by omega) (by omega), Am6, Qp h]
  obtain ⟨k, hk⟩ := An5 (show 0 ≤ f.Locals + f.Height by omega)
  rw [hk, Jz _ _ (by omega), Am6, Cc (by omega) (by omega)]
  unfold Kj
  rw [hk]
theorem YF {f : A3} (h : Fb f) {i : Int} (h0 : 0 ≤ i) (hi : i < f.Locals) : ∃ x, Jc f i = some (x, 0) ∧ idx f.Slots.toList i = some x ∧ f.Slots.toList[i.toNat]? = some x := by
 have hh := h.num
 obtain ⟨k, rfl⟩ := An5 h0
 have hk24 : k < 24 := by omega
 refine ⟨f.Slots[k], ?_, Jz _ _ hk24, ?_⟩
 ·unfold Jc
  rw [show (⟨f.Locals, f.Height, f.Slots⟩ : A3) = f from rfl, Ob f h.h, Am6, Ay (by simp [h.shp]), Ay (by rw [Az]; omega), Ay (by rw [Az]; omega), Jz _ _ hk24, Am6]
 ·rw [An4, Am8 (by simpa using hk24), Vector.getElem_toList]
theorem Ace {f : A3} (h : Fb f) {i : Int} (h0 : 0 ≤ i) (hi : i < f.Locals) (t : UInt8) : Kv f i t = some (Qn f i t, 0) := by
 have hh := h.num
 obtain ⟨x, hx, hx2, _⟩ := YF h h0 hi
 unfold Kv
 rw [show (⟨f.Locals, f.Height, f.Slots⟩ : A3) = f from rfl, hx, Am6]
 dsimp only
 rw [Ay (by simp), QD f (by omega) (by omega), Am6, Qp h, hx2, Am6]
 rfl
def JF : A3 → List UInt8 → A3 × Int
 | f, [] => (f, 0)
 | f, t :: g => if f.Locals + f.Height = 24 then (zf, 31) else JF (Kj f t) g
theorem Up {l : List A9} : ∀ (g : List UInt8) (f : A3), Fb f → ON l f.Slots → (∀ t ∈ g, tv l t = true) → (JF f g).2 = 0 → GR l (JF f g).1
 | [], f, h, ha, _, _ => ⟨h.shp, h.bare, ha⟩
 | t :: g, f, h, ha, hg, h0 => by
  unfold JF at *
  by_cases h24 : f.Locals + f.Height = 24
  ·rw [A1 h24] at h0; cases h0
  ·rw [Ay h24] at h0 ⊢
   exact Up g _ (Yk h t h24) (Ab8 h ha (hg t (by simp))) (fun x hx => hg x (by simp [hx])) h0
theorem Wk {body : Int × Int × Vector UInt8 24 × Int → Option ((Int × Int × Vector UInt8 24 × Int) ⊕ (Int × Int × Vector UInt8 24))} (n : Nat) {f : A3} (h : Fb f) (hn : n ≤ f.Height)
  (hs : ∀ (g : A3) (i : Nat), i < n → Fb g → 0 < g.Height → body (g.Locals, g.Height, g.Slots, (i : Int)) = some (.inl ((Dx g 1).Locals, (Dx g 1).Height, (Dx g 1).Slots, ((i + 1 : Nat) : Int))))
  (he : ∀ g : A3, body (g.Locals, g.Height, g.Slots, (n : Int)) = some (.inr (g.Locals, g.Height, g.Slots))) :
  AQ body (f.Locals, f.Height, f.Slots, 0) = some ((Dx f n).Locals, (Dx f n).Height, (Dx f n).Slots) := by
 have hh := h.num
 refine GE n (fun i => ((Dx f i).Locals, (Dx f i).Height, (Dx f i).Slots, (i : Int))) (fun i hi => ?_) (he _) ?_
 ·have hp : (Dx f i).Height = f.Height - i := rfl
  rw [hs (Dx f i) i hi (SG h i (by omega)) (by omega)]
  have e : Dx (Dx f i) 1 = Dx f (i + 1) := Adk i (by omega)
  rw [e]
 ·rw [VZ h]; rfl
theorem Tr {body : Int × Int × Vector UInt8 24 × Int → Option ((Int × Int × Vector UInt8 24 × Int) ⊕ ((A3 × Int) ⊕ (Int × Int × Vector UInt8 24)))} (g : List UInt8) (hg : g.length ≤ 1048576)
  (hs : ∀ (f : A3) (i : Nat) (hi : i < g.length), Fb f → body (f.Locals, f.Height, f.Slots, (i : Int)) = some (if f.Locals + f.Height = 24 then .inr (.inl (zf, 31)) else .inl ((Kj f g[i]).Locals, (Kj f g[i]).Height, (Kj f g[i]).Slots, ((i + 1 : Nat) : Int))))
  (he : ∀ f : A3, body (f.Locals, f.Height, f.Slots, (g.length : Int)) = some (.inr (.inr (f.Locals, f.Height, f.Slots)))) :
  ∀ (k i : Nat) (f : A3), i + k = g.length → Fb f → AQ body (f.Locals, f.Height, f.Slots, (i : Int)) = some (if (JF f (g.drop i)).2 = 0 then .inr ((JF f (g.drop i)).1.Locals, (JF f (g.drop i)).1.Height, (JF f (g.drop i)).1.Slots) else .inl (JF f (g.drop i))) := by
 intro k
 induction k with
 | zero =>
  intro i f hi h
  have : i = g.length := by omega
  subst this
  rw [List.drop_length, Bm (he f)]
  rfl
 | succ k ih =>
  intro i f hi h
  have hi' : i < g.length := by omega
  have hb := hs f i hi' h
  rw [List.drop_eq_getElem_cons hi']
  unfold JF
  by_cases h24 : f.Locals + f.Height = 24
  ·rw [A1 h24] at hb
   rw [A1 h24, Bm hb]
   rfl
  ·rw [Ay h24] at hb
   rw [Ay h24, BQ hb]
   exact ih (i + 1) (Kj f g[i]) (by omega) (Yk h _ h24)
end Go.Proofs.YtfcpkcehecmcpaaGreat
namespace Go.Proofs.YtfcpkcehecmcpaaGreat
open Go Go.RowKit Go.Pv
theorem WN (l : List A9) (f g : A3) (n : Nat) : ∃ w : Vector UInt8 24, ∀ i (h : i < 24), w[i] = if i < n then LH l f.Slots[i] g.Slots[i] else f.Slots[i] := ⟨Vector.ofFn fun i => if i.val < n then LH l f.Slots[i] g.Slots[i] else f.Slots[i], fun i h => by simp⟩
noncomputable def PX (l : List A9) (f g : A3) (n : Nat) : Vector UInt8 24 := Classical.choose (WN l f g n)
theorem KN (l : List A9) (f g : A3) (n i : Nat) (h : i < 24) : (PX l f g n)[i] = if i < n then LH l f.Slots[i] g.Slots[i] else f.Slots[i] := Classical.choose_spec (WN l f g n) i h
noncomputable def DU (l : List A9) (f g : A3) : A3 × Int := if f.Locals = g.Locals ∧ f.Height = g.Height then (⟨f.Locals, f.Height, PX l f g (f.Locals + f.Height).toNat⟩, 0) else (zf, 32)
theorem UV (l : List A9) {f g : A3} {body : Vector UInt8 24 × Int → Option ((Vector UInt8 24 × Int) ⊕ Vector UInt8 24)} (n : Nat) (hn : n ≤ 24)
  (hs : ∀ (v : Vector UInt8 24) (i : Nat) (hi : i < n), body (v, (i : Int)) = some (.inl (H5 v (i : Int) (LH l v[i] g.Slots[i]), ((i + 1 : Nat) : Int)))) (he : ∀ v, body (v, (n : Int)) = some (.inr v)) : AQ body (f.Slots, 0) = some (PX l f g n) := by
 refine GE n (fun i => (PX l f g i, (i : Int))) (fun i hi => ?_) (he _) ?_
 ·rw [hs _ i hi]
  congr 2
  refine Prod.ext ?_ rfl
  apply Vector.ext
  intro j hj
  dsimp only
  rw [MZ _ _ _ _ hj, KN _ _ _ _ _ (show i < 24 by omega), KN _ _ _ _ _ hj, KN _ _ _ _ _ hj, Ay (show ¬ i < i by omega)]
  by_cases h : i = j
  ·subst h
   rw [A1 rfl, A1 (by omega)]
  ·rw [Ay h]
   by_cases h2 : j < i
   ·rw [A1 h2, A1 (by omega)]
   ·rw [Ay h2, Ay (by omega)]
 ·refine Prod.ext ?_ rfl
  apply Vector.ext
  intro j hj
  dsimp only
  rw [KN _ _ _ _ _ hj, Ay (by omega)]
theorem Abe {l : List A9} (G : Good l) {f g : A3} (hf : GR l f) (hg : GR l g) : Ko l f g = some (DU l f g) := by
 have hh := hf.fb.num
 unfold Ko MC DU
 rw [show (⟨f.Locals, f.Height, f.Slots⟩ : A3) = f from rfl, show (⟨g.Locals, g.Height, g.Slots⟩ : A3) = g from rfl, Rc hf, Am6, A1 (by simp), Rc hg, Am6, A1 (by simp)]
 by_cases h1 : f.Locals = g.Locals
 ·rw [Ay (by simp [h1])]
  by_cases h2 : f.Height = g.Height
  ·rw [Ay (by simp [h2]), Am6, Ay (by simp), A1 ⟨h1, h2⟩]
   obtain ⟨n, hn⟩ := An5 (show 0 ≤ f.Locals + f.Height by omega)
   rw [UV l n (by omega) (f := f) (g := g) (fun v i hi => ?_) (fun v => ?_), Am6, hn, An4]
   ·unfold GG
    dsimp only
    rw [Cc (n := f.Locals + f.Height) (by omega) (by omega), hn, A1 (by rw [Az]; omega), Jz _ _ (by omega), Am6, Jz _ _ (by omega), Am6, Adi l G, Am6, Am6, CU (by omega)]
   ·unfold GG
    dsimp only
    rw [Cc (n := f.Locals + f.Height) (by omega) (by omega), hn, Ay (by rw [Az]; omega)]
  ·rw [A1 (by simp [h2]), Am6, A1 (by simp), Ay (by rintro ⟨_, h⟩; exact h2 h)]
 ·rw [A1 (by simp [h1]), Am6, A1 (by simp), Ay (by rintro ⟨h, _⟩; exact h1 h)]
theorem Aav {l : List A9} (G : Good l) {f g : A3} (hf : GR l f) (hg : GR l g) : KA l f g = some (DU l f g) := by
 have hh := hf.fb.num
 unfold KA DU
 rw [show (⟨f.Locals, f.Height, f.Slots⟩ : A3) = f from rfl, show (⟨g.Locals, g.Height, g.Slots⟩ : A3) = g from rfl, QC hf, Am6, Ay (by simp), QC hg, Am6, Ay (by simp)]
 by_cases h1 : f.Locals = g.Locals
 ·rw [Ay (by simp [h1])]
  by_cases h2 : f.Height = g.Height
  ·rw [Ay (by simp [h2]), A1 ⟨h1, h2⟩]
   obtain ⟨n, hn⟩ := An5 (show 0 ≤ f.Locals + f.Height by omega)
   rw [UV l n (by omega) (f := f) (g := g) (fun v i hi => ?_) (fun v => ?_), Am6, hn, An4]
   ·unfold Jw
    dsimp only
    rw [Cc (n := f.Locals + f.Height) (by omega) (by omega), hn, A1 (by rw [Az]; omega), Jz _ _ (by omega), Am6, Jz _ _ (by omega), Am6, Ac4 l G, Am6, Am6, CU (by omega)]
   ·unfold Jw
    dsimp only
    rw [Cc (n := f.Locals + f.Height) (by omega) (by omega), hn, Ay (by rw [Az]; omega)]
  ·rw [A1 (by simp [h2]), Ay (by rintro ⟨_, h⟩; exact h2 h)]
 ·rw [A1 (by simp [h1]), Ay (by rintro ⟨h, _⟩; exact h1 h)]
end Go.Proofs.YtfcpkcehecmcpaaGreat
namespace Go.Proofs.YtfcpkcehecmcpaaGreat
open Go Go.RowKit Go.Pv
theorem Aeu {n : Nat} (h : n < 34) : n = 0 ∨ n = 1 ∨ n = 2 ∨ n = 3 ∨ n = 4 ∨ n = 5 ∨ n = 6 ∨ n = 7 ∨ n = 8 ∨ n = 9 ∨ n = 10 ∨ n = 11 ∨ n = 12 ∨ n = 13 ∨ n = 14 ∨ n = 15 ∨ n = 16 ∨ n = 17 ∨ n = 18 ∨ n = 19 ∨ n = 20 ∨ n = 21 ∨ n = 22 ∨ n = 23 ∨ n = 24 ∨ n = 25 ∨ n = 26 ∨ n = 27 ∨ n = 28 ∨ n = 29 ∨ n = 30 ∨ n = 31 ∨ n = 32 ∨ n = 33 := by omega
def R7 (e : AD) (i : AA) : Bq := (e.AP[i.A.toNat]?).getD ⟨[], 0⟩
def JH (e : AD) : Bq := (e.AP[e.Fn.toNat]?).getD ⟨[], 0⟩
def VP (e : AD) (i : AA) : UInt8 := match (Cm e.Classes i.A)[i.B.toNat]? with
 | some f => f.HH
 | none => 0
def J1 (t : UInt8) : List UInt8 := if t.toNat = 0 then [] else [t]
def Ks (a : Int) : UInt8 := E2 (16 + ((E2 a).toNat : Int))
def CX (e : AD) (i : AA) : Int :=
 if i.Op.toNat = 21 then (if 0 ≤ i.A ∧ i.A < e.AP.length then 0 else 71)
 else if i.Op.toNat = 23 ∨ i.Op.toNat = 30 ∨ i.Op.toNat = 31 then (if 0 ≤ i.A ∧ i.A < e.Classes.length then 0 else 72)
 else if i.Op.toNat = 24 ∨ i.Op.toNat = 25 then (if 0 ≤ i.A ∧ i.A < e.Classes.length ∧ 0 ≤ i.B ∧ i.B < (Cm e.Classes i.A).length then 0 else 72)
 else 0
def Bg (e : AD) (i : AA) : List UInt8 := match i.Op.toNat with
 | 5 => [254] | 6 => [255] | 7 => [255] | 8 => [255, 255]
 | 9 => [1, 1] | 10 => [1, 1] | 11 => [1, 1] | 12 => [1, 1] | 13 => [1, 1] | 15 => [1, 1]
 | 14 => [1] | 26 => [1] | 33 => [1] | 16 => [255, 255] | 17 => [2] | 20 => [2] | 18 => [253, 253]
 | 21 => (R7 e i).B5 | 22 => J1 (JH e).Result
 | 24 => [Ks i.A] | 25 => [Ks i.A, VP e i]
 | 27 => [4] | 28 => [4, 1] | 29 => [4, 1, 1] | 30 => [253] | 31 => [253] | _ => []
def Ic (e : AD) (i : AA) : List UInt8 := match i.Op.toNat with
 | 1 => [1] | 9 => [1] | 10 => [1] | 11 => [1] | 12 => [1] | 13 => [1] | 14 => [1] | 27 => [1] | 28 => [1]
 | 2 => [2] | 15 => [2] | 16 => [2] | 17 => [2] | 18 => [2] | 31 => [2]
 | 3 => [3] | 4 => [255] | 7 => [255, 255] | 8 => [255, 255]
 | 21 => J1 (R7 e i).Result | 23 => [Ks i.A] | 30 => [Ks i.A] | 24 => J1 (VP e i) | 26 => [4] | _ => []
theorem Fc {α : Type} {l : List α} {i : Int} (h0 : 0 ≤ i) (h : i < l.length) (d : α) : idx l i = some ((l[i.toNat]?).getD d) := by
 obtain ⟨x, hx, hx2⟩ := ZW h0 h
 rw [hx, hx2]; rfl
theorem QX (t : UInt8) : Ht t = some (J1 t) := by
 unfold Ht J1
 by_cases h : t.toNat = 0
 ·rw [A1 (by rw [h]; rfl), A1 h]
 ·rw [Ay (by rw [AG]; omega), Ay h]
theorem Nx {e : AD} (h : Dg e) {i : AA} (h0 : 0 ≤ i.A) (h1 : i.A < e.Classes.length) : Dy e.Classes i.A = some (Cm e.Classes i.A) ∧ EY e.Classes i.A = some (Cm e.Classes i.A) :=
 ⟨Vf _ h.good.tab h.good.right (by have := h.good.few; omega) _ h1 h1, Aal _ h.good.tab h.good.right (by have := h.good.few; omega) _ h1 h1⟩
theorem Z6 {e : AD} (h : Dg e) (i : AA) : GK e i = some (CX e i) := by
 unfold GK CX
 have b (k : Nat) : ((i.Op.toNat : Int) == (k : Int)) = decide (i.Op.toNat = k) := BR _ k
 have b21 : ((i.Op.toNat : Int) == 21) = decide (i.Op.toNat = 21) := b 21
 have b23 : ((i.Op.toNat : Int) == 23) = decide (i.Op.toNat = 23) := b 23
 have b30 : ((i.Op.toNat : Int) == 30) = decide (i.Op.toNat = 30) := b 30
 have b31 : ((i.Op.toNat : Int) == 31) = decide (i.Op.toNat = 31) := b 31
 have b24 : ((i.Op.toNat : Int) == 24) = decide (i.Op.toNat = 24) := b 24
 have b25 : ((i.Op.toNat : Int) == 25) = decide (i.Op.toNat = 25) := b 25
 simp only [b21, b23, b30, b31, b24, b25, Az]
 by_cases h21 : i.Op.toNat = 21
 ·simp only [h21]
  by_cases h0 : i.A < 0
  ·simp [h0]; omega
  ·by_cases h1 : i.A ≥ (e.AP.length : Int)
   ·simp [h1]
   ·have : 0 ≤ i.A ∧ i.A < e.AP.length := by omega
    simp [h0, h1, this]
 ·by_cases hc : i.Op.toNat = 23 ∨ i.Op.toNat = 30 ∨ i.Op.toNat = 31
  ·have h24 : i.Op.toNat ≠ 24 := by omega
   have h25 : i.Op.toNat ≠ 25 := by omega
   have ho : (if i.Op.toNat = 23 then some true else if i.Op.toNat = 30 then some true else if i.Op.toNat = 31 then some true else if i.Op.toNat = 24 then some true else some (decide (i.Op.toNat = 25))) = some true := by
    rcases hc with q | q | q <;> simp [q]
   rw [Ay h21, ho, Am6, Ay h21, A1 hc, A1 rfl, Ay h24, Ay h25]
   by_cases h0 : i.A < 0
   ·rw [A1 h0, Ay (by omega)]; rfl
   ·by_cases h1 : i.A ≥ (e.Classes.length : Int)
    ·rw [Ay h0, A1 h1, Ay (by omega)]; rfl
    ·rw [Ay h0, Ay h1, A1 (by omega)]; rfl
  ·by_cases hf : i.Op.toNat = 24 ∨ i.Op.toNat = 25
   ·have ho : (if i.Op.toNat = 23 then some true else if i.Op.toNat = 30 then some true else if i.Op.toNat = 31 then some true else if i.Op.toNat = 24 then some true else some (decide (i.Op.toNat = 25))) = some true := by
     rcases hf with q | q <;> simp [q]
    rw [Ay h21, ho, Am6, Ay h21, Ay hc, A1 hf, A1 rfl]
    by_cases h0 : i.A < 0
    ·rw [A1 h0, Ay (show ¬ (0 ≤ i.A ∧ i.A < (e.Classes.length : Int) ∧ 0 ≤ i.B ∧ i.B < ((Cm e.Classes i.A).length : Int)) by omega)]; rfl
    ·by_cases h1 : i.A ≥ (e.Classes.length : Int)
     ·rw [Ay h0, A1 h1, Ay (show ¬ (0 ≤ i.A ∧ i.A < (e.Classes.length : Int) ∧ 0 ≤ i.B ∧ i.B < ((Cm e.Classes i.A).length : Int)) by omega)]; rfl
     ·rw [Ay h0, Ay h1, Am6]
      dsimp only
      rw [(Nx h (i := i) (by omega) (by omega)).1]
      by_cases h24 : i.Op.toNat = 24
      ·rw [A1 h24]
       by_cases hb : i.B < 0
       ·rw [A1 hb, Ay (show ¬ (0 ≤ i.A ∧ i.A < (e.Classes.length : Int) ∧ 0 ≤ i.B ∧ i.B < ((Cm e.Classes i.A).length : Int)) by omega)]
       ·rw [Ay hb, Am6]
        by_cases hb2 : i.B ≥ ((Cm e.Classes i.A).length : Int)
        ·rw [A1 hb2, Ay (by omega)]
        ·rw [Ay hb2, A1 (by omega)]
      ·have h25 : i.Op.toNat = 25 := by omega
       rw [Ay h24, A1 h25]
       by_cases hb : i.B < 0
       ·rw [A1 hb, Ay (show ¬ (0 ≤ i.A ∧ i.A < (e.Classes.length : Int) ∧ 0 ≤ i.B ∧ i.B < ((Cm e.Classes i.A).length : Int)) by omega)]
       ·rw [Ay hb, Am6]
        by_cases hb2 : i.B ≥ ((Cm e.Classes i.A).length : Int)
        ·rw [A1 hb2, Ay (by omega)]
        ·rw [Ay hb2, A1 (by omega)]
   ·have h24 : i.Op.toNat ≠ 24 := by omega
    have h25 : i.Op.toNat ≠ 25 := by omega
    have ho : (if i.Op.toNat = 23 then some true else if i.Op.toNat = 30 then some true else if i.Op.toNat = 31 then some true else if i.Op.toNat = 24 then some true else some (decide (i.Op.toNat = 25))) = some false := by
     rw [Ay (by omega), Ay (by omega), Ay (by omega), Ay (by omega), decide_eq_false h25]
    rw [Ay h21, ho, Am6, Ay h21, Ay hc, Ay hf, Ay (by simp), Am6]
    dsimp only
    rw [Ay h24, Ay h25]
theorem UQ {e : AD} {i : AA} (h0 : 0 ≤ i.B) (h1 : i.B < (Cm e.Classes i.A).length) : ∃ f, idx (Cm e.Classes i.A) i.B = some f ∧ VP e i = f.HH ∧ f ∈ Cm e.Classes i.A := by
 obtain ⟨x, hx, hx2⟩ := ZW h0 h1
 refine ⟨x, hx, ?_, Anw hx2⟩
 unfold VP
 rw [hx2]
theorem Abw {e : AD} (h : Dg e) (i : AA) (ho : i.Op.toNat < 34) (h0 : CX e i = 0) : Kp e i = some (Bg e i) := by
 unfold Kp Bg
 unfold CX at h0
 rcases Aeu ho with h | h | h | h | h | h | h | h | h | h | h | h | h | h | h | h | h | h | h | h | h | h | h | h | h | h | h | h | h | h | h | h | h | h
 all_goals first
  | (simp [h]; done)
  | (simp only [h]; rw [h] at h0; skip)
 ·simp at h0
  simp [Fc h0.1 h0.2 ⟨[], 0⟩, R7]
 ·have hf := ‹Dg e›.fn
  simp [Fc hf.1 hf.2 ⟨[], 0⟩, JH, QX]
 ·simp at h0
  simp [Ez, Ks]
 ·simp at h0
  obtain ⟨f, hx, hx2, _⟩ := UQ (e := e) h0.2.2.1 h0.2.2.2
  simp [Ez, Ks, (Nx ‹Dg e› h0.1 h0.2.1).1, hx, hx2]
theorem Ad0 {e : AD} (h : Dg e) (i : AA) (ho : i.Op.toNat < 34) (h0 : CX e i = 0) : Ky e i = some (Ic e i) := by
 unfold Ky Ic
 unfold CX at h0
 rcases Aeu ho with h | h | h | h | h | h | h | h | h | h | h | h | h | h | h | h | h | h | h | h | h | h | h | h | h | h | h | h | h | h | h | h | h | h
 all_goals first
  | (simp [h]; done)
  | (simp only [h]; rw [h] at h0; skip)
 ·simp at h0
  simp [Fc h0.1 h0.2 ⟨[], 0⟩, R7, QX]
 ·simp [Ez, Ks]
 ·simp at h0
  obtain ⟨f, hx, hx2, _⟩ := UQ (e := e) h0.2.2.1 h0.2.2.2
  simp [(Nx ‹Dg e› h0.1 h0.2.1).1, hx, hx2, QX]
 ·simp [Ez, Ks]
end Go.Proofs.YtfcpkcehecmcpaaGreat
namespace Go.Proofs.YtfcpkcehecmcpaaGreat
open Go Go.RowKit Go.Pv
theorem UZ {l : List A9} (h : l.length ≤ 32) {t : UInt8} (hs : st l t = true) : t.toNat < 48 ∧ t.toNat ≠ 0 ∧ t.toNat ≠ 3 ∧ tv l t = true := by
 unfold st at hs
 rw [An6, An6, AN, AN] at hs
 obtain ⟨h1, h2, h3⟩ := hs
 have h1' := h1
 unfold tv at h1'
 rw [An8, An6, Az, Az, Az] at h1'
 exact ⟨by omega, h2, h3, h1⟩
theorem U6 {l : List A9} (G : Good l) {c : Int} (hc : c < l.length) {f : B1} (hf : f ∈ Cm l c) : st l f.HH = true := by
 unfold Cm at hf
 obtain ⟨k, hk, hk2⟩ := List.mem_flatMap.1 hf
 have hk' := List.mem_reverse.1 hk
 have hlt := (Mg G.right (c.toNat + 1) c (by omega) hc hc k hk').2
 rw [PV hlt] at hk2
 exact G.stored k hlt f hk2
theorem Ur {l : List A9} (h : l.length ≤ 32) {a : Int} (h0 : 0 ≤ a) (h1 : a < l.length) : (Ks a).toNat = 16 + a.toNat ∧ Ks a = Tx a.toNat ∧ tv l (Ks a) = true := by
 obtain ⟨k, rfl⟩ := An5 h0
 have hk : k < l.length := by omega
 have e : Ks (k : Int) = Tx k := by
  unfold Ks Tx
  rw [S8 (by omega)]
 rw [e, An4]
 exact ⟨Sk (by omega), rfl, Ac8 hk (by omega)⟩
def Ki (t : UInt8) : A8 := if t = 255 then ⟨0, 0⟩ else if t = 254 then ⟨1, 0⟩ else if t = 253 then ⟨2, 0⟩ else ⟨4, t⟩
theorem Nl {t : UInt8} (h : t.toNat < 48) : Ki t = ⟨4, t⟩ := by
 unfold Ki
 rw [Ay (by rintro rfl; simp at h), Ay (by rintro rfl; simp at h), Ay (by rintro rfl; simp at h)]
def Er (e : AD) (i : AA) : List A8 := if i.Op.toNat = 16 then [⟨3, 0⟩, ⟨3, 0⟩] else (Bg e i).map Ki
def K9 (e : AD) (i : AA) : Gv := if i.Op.toNat = 7 then .dup else if i.Op.toNat = 8 then .swap else if i.Op.toNat = 4 then .const [0] else .const (Ic e i)
theorem YW (l : List A9) {c : Int} (h : ¬ (0 ≤ c ∧ c < l.length)) : EY l c = some [] := by
 unfold EY DR
 have h1 : AQ (Cs l) (([] : List Int), c) = some (.inr []) := by
  apply Bm
  unfold Cs
  dsimp only
  by_cases h0 : c ≥ 0
  ·rw [A1 (by rw [Az]; exact h0), Ay (by rw [Az]; omega)]
  ·rw [Ay (by rw [Az]; exact h0)]
 rw [h1, Am6]
 dsimp only
 rw [Am6]
 have h2 : AQ (DK l []) (([] : List B1), wr ((([] : List Int).length : Int) - 1)) = some [] := by
  apply Bm
  unfold DK
  rw [show wr ((([] : List Int).length : Int) - 1) = -1 from by rw [Cc] <;> simp]
  dsimp only
  rw [Ay (by simp)]
 rw [h2, Am6]
theorem Qw {α : Type} {l : List α} {i : Nat} {d x : α} (h : i < l.length) (hx : (l[i]?).getD d = x) : x ∈ l := by
 rw [Am8 h] at hx
 rw [← hx]
 exact Anl h
theorem TV {e : AD} {i : AA} (h0 : 0 ≤ i.A) (h1 : i.A < e.AP.length) : R7 e i ∈ e.AP := Qw (by omega) rfl
theorem Ad2 {e : AD} (h : Dg e) : JH e ∈ e.AP := by
 have := h.fn
 exact Qw (by omega) rfl
theorem SR {e : AD} (h : Dg e) {s : Bq} (hs : s ∈ e.AP) : s.B5.length ≤ 8 ∧ (∀ t ∈ s.B5, st e.Classes t = true) ∧ (s.Result.toNat = 0 ∨ st e.Classes s.Result = true) := by
 obtain ⟨h8, h2⟩ := h.sigs s hs
 unfold P7 at h2
 rw [An6, An8, List.all_eq_true, Az] at h2
 exact ⟨h8, h2.1, h2.2⟩
theorem Adf {s : Bq} (h : s.B5.length ≤ 8) : AQ (Ie s) (([] : List A8), 0) = some (s.B5.map fun t => ⟨4, t⟩) := by
 refine Nk s.B5 (fun t => (⟨4, t⟩ : A8)) (fun i hi acc ha => ?_) (fun acc => ?_)
 ·unfold Ie
  dsimp only
  rw [A1 (by rw [Az]; omega), Bv hi, Am6]
  unfold HV
  rw [Am6, C9 (by simp; omega), Am6, CU (by omega)]
 ·unfold Ie
  dsimp only
  rw [Ay (by rw [Az]; omega)]
theorem Af4 {l : List UInt8} (h : ∀ t ∈ l, t.toNat < 48) : l.map (fun t => (⟨4, t⟩ : A8)) = l.map Ki := List.map_congr_left fun t ht => (Nl (h t ht)).symm
theorem Tg {e : AD} (h : Dg e) (i : AA) (hc : i.Op.toNat = 23 ∨ i.Op.toNat = 30) {w : List A8} (hw : Er e i = w) (hg : K9 e i = .const [Ks i.A]) : FQ (.classed w true) e i = some (if CX e i = 0 then (⟨Er e i, K9 e i⟩, 0) else (⟨[], Gv.nil⟩, CX e i)) := by
 unfold FQ Ih
 dsimp only
 have ho : CX e i = if 0 ≤ i.A ∧ i.A < e.Classes.length then 0 else 72 := by unfold CX; rw [Ay (by omega), A1 (by omega)]
 by_cases ha : 0 ≤ i.A ∧ i.A < e.Classes.length
 ·rw [ho, A1 ha, A1 rfl, Ay (by rw [Az]; omega), Ay (by rw [Az]; omega), Ay (by simp), hw, hg]
  rfl
 ·rw [ho, Ay ha, Ay (show ¬ (72 : Int) = 0 by omega)]
  by_cases h1 : i.A < 0
  ·rw [A1 (by rw [Az]; exact h1)]
  ·rw [Ay (by rw [Az]; exact h1), A1 (by rw [Az]; omega)]
theorem Af0 {e : AD} (h : Dg e) (i : AA) (hc : i.Op.toNat = 31) {w : List A8} (hw : Er e i = w) (hg : K9 e i = .const [2]) : FQ (.classed w false) e i = some (if CX e i = 0 then (⟨Er e i, K9 e i⟩, 0) else (⟨[], Gv.nil⟩, CX e i)) := by
 unfold FQ Ih
 dsimp only
 have ho : CX e i = if 0 ≤ i.A ∧ i.A < e.Classes.length then 0 else 72 := by unfold CX; rw [Ay (by omega), A1 (by omega)]
 by_cases ha : 0 ≤ i.A ∧ i.A < e.Classes.length
 ·rw [ho, A1 ha, A1 rfl, Ay (by rw [Az]; omega), Ay (by rw [Az]; omega), A1 (by simp), hw, hg]
 ·rw [ho, Ay ha, Ay (show ¬ (72 : Int) = 0 by omega)]
  by_cases h1 : i.A < 0
  ·rw [A1 (by rw [Az]; exact h1)]
  ·rw [Ay (by rw [Az]; exact h1), A1 (by rw [Az]; omega)]
theorem W7 {e : AD} (h : Dg e) (i : AA) (hc : i.Op.toNat = 24 ∨ i.Op.toNat = 25) (b : Bool) (hb : b = decide (i.Op.toNat = 25))
  (hw : i.Op.toNat = i.Op.toNat → Er e i = if b then [Ki (Ks i.A), Ki (VP e i)] else [Ki (Ks i.A)]) (hg : i.Op.toNat = i.Op.toNat → K9 e i = .const (if b then [] else J1 (VP e i))) : FQ (.field b) e i = some (if CX e i = 0 then (⟨Er e i, K9 e i⟩, 0) else (⟨[], Gv.nil⟩, CX e i)) := by
 have hl32 := h.good.few
 unfold FQ KR
 dsimp only
 have ho : CX e i = if 0 ≤ i.A ∧ i.A < e.Classes.length ∧ 0 ≤ i.B ∧ i.B < (Cm e.Classes i.A).length then 0 else 72 := by unfold CX; rw [Ay (by omega), Ay (by omega), A1 hc]
 by_cases ha : 0 ≤ i.A ∧ i.A < e.Classes.length
 ·rw [(Nx h ha.1 ha.2).2, Am6, Ay (by rw [Az]; omega), Ay (by rw [Az]; omega)]
  by_cases hB : 0 ≤ i.B ∧ i.B < (Cm e.Classes i.A).length
  ·obtain ⟨f, hf1, hf2, hf3⟩ := UQ (e := e) hB.1 hB.2
   have hft := UZ hl32 (U6 h.good ha.2 hf3)
   have hct := Ur hl32 ha.1 ha.2
   rw [Ay (by rw [Az]; omega), Ay (by rw [Az]; omega), hf1, Am6, ho, A1 (show (0 ≤ i.A ∧ i.A < (e.Classes.length : Int) ∧ 0 ≤ i.B ∧ i.B < ((Cm e.Classes i.A).length : Int)) from ⟨ha.1, ha.2, hB.1, hB.2⟩), A1 (show (0 : Int) = 0 from rfl), hw rfl, hg rfl, hf2, Nl (t := f.HH) hft.1, Nl (t := Ks i.A) (by omega)]
   rcases b with _ | _
   ·rw [Ay (by simp), Ay (by simp), Ay (by simp)]
    unfold J1
    rw [Ay hft.2.1]
    rfl
   ·rw [A1 rfl, A1 rfl, A1 rfl]
    rfl
  ·rw [ho, Ay (show ¬ (0 ≤ i.A ∧ i.A < (e.Classes.length : Int) ∧ 0 ≤ i.B ∧ i.B < ((Cm e.Classes i.A).length : Int)) by omega), Ay (show ¬ (72 : Int) = 0 by omega)]
   by_cases h1 : i.B < 0
   ·rw [A1 (by rw [Az]; exact h1)]
   ·rw [Ay (by rw [Az]; exact h1), A1 (by rw [Az]; omega)]
 ·rw [ho, YW _ ha, Am6, Ay (show ¬ (0 ≤ i.A ∧ i.A < (e.Classes.length : Int) ∧ 0 ≤ i.B ∧ i.B < ((Cm e.Classes i.A).length : Int)) by omega), Ay (show ¬ (72 : Int) = 0 by omega)]
  by_cases h1 : i.A < 0
  ·rw [A1 (by rw [Az]; exact h1)]
  ·rw [Ay (by rw [Az]; exact h1), A1 (by rw [Az]; omega)]
theorem Ae5 {e : AD} (h : Dg e) (i : AA) (t : Db A8) (ho : i.Op.toNat < 34)
  (ht : (Mb ⟨4, 1⟩ ⟨4, 2⟩ ⟨4, 4⟩)[i.Op.toNat]? = some t) : FQ t e i = some (if CX e i = 0 then (⟨Er e i, K9 e i⟩, 0) else (⟨[], Gv.nil⟩, CX e i)) := by
 have hl32 := h.good.few
 rcases Aeu ho with h0 | h0 | h0 | h0 | h0 | h0 | h0 | h0 | h0 | h0 | h0 | h0 | h0 | h0 | h0 | h0 | h0 | h0 | h0 | h0 | h0 | h0 | h0 | h0 | h0 | h0 | h0 | h0 | h0 | h0 | h0 | h0 | h0 | h0
 all_goals (rw [h0] at ht; simp [Mb, Su, Rm, Si, Rt, NE, N7, NI, RJ, S5, RX, S6, Rf, RY, S4, N8, RQ, RF, N1, Rj, Rp, Rz, RE, Sx, Sa, Ut, Um, Uv, TE, TX, TN, TA, Uk, Ug, TP] at ht; subst ht)
 all_goals first
  | (simp [FQ, Lg, CX, h0, Er, K9, Bg, Ic, Ki]; done)
  | skip
 ·-- call
  unfold FQ Pj
  dsimp only
  have ho : CX e i = if 0 ≤ i.A ∧ i.A < e.AP.length then 0 else 71 := by simp [CX, h0]
  by_cases ha : 0 ≤ i.A ∧ i.A < e.AP.length
  ·rw [ho, A1 ha, A1 rfl, Ay (by rw [Az]; omega), Ay (by rw [Az]; omega), Fc ha.1 ha.2 ⟨[], 0⟩, Am6]
   have hm := SR h (TV ha.1 ha.2)
   unfold R7 at hm
   rw [Adf hm.1, Am6, Af4 fun t ht => (UZ hl32 (hm.2.1 t ht)).1]
   have hw : Er e i = ((e.AP[i.A.toNat]?).getD ⟨[], 0⟩).B5.map Ki := by simp [Er, h0, Bg, R7]
   have hg : K9 e i = .const (J1 ((e.AP[i.A.toNat]?).getD ⟨[], 0⟩).Result) := by simp [K9, h0, Ic, R7]
   rw [hw, hg]
   unfold J1
   by_cases hr : ((e.AP[i.A.toNat]?).getD ⟨[], 0⟩).Result.toNat = 0
   ·rw [A1 (by rw [hr]; rfl), A1 hr]
   ·rw [Ay (by rw [AG]; omega), Ay hr]
  ·rw [ho, Ay ha, Ay (show ¬ (71 : Int) = 0 by omega)]
   by_cases h1 : i.A < 0
   ·rw [A1 (by rw [Az]; exact h1)]
   ·rw [Ay (by rw [Az]; exact h1), A1 (by rw [Az]; omega)]
 ·-- return
  unfold FQ KV M8
  dsimp only
  have hf := h.fn
  rw [Fc hf.1 hf.2 ⟨[], 0⟩, Am6]
  have hm := SR h (Ad2 h)
  unfold JH at hm
  have hw : Er e i = (J1 ((e.AP[e.Fn.toNat]?).getD ⟨[], 0⟩).Result).map Ki := by simp [Er, h0, Bg, JH]
  have hg : K9 e i = .const [] := by simp [K9, h0, Ic]
  rw [hw, hg, show CX e i = 0 by simp [CX, h0], A1 rfl]
  unfold J1
  by_cases hr : ((e.AP[e.Fn.toNat]?).getD ⟨[], 0⟩).Result.toNat = 0
  ·rw [A1 (by rw [hr]; rfl), A1 hr]; rfl
  ·rw [Ay (by rw [AG]; omega), Ay hr]
   unfold HV
   rw [Am6, Am6, List.map_singleton, Nl (UZ hl32 (hm.2.2.resolve_left hr)).1]
 ·exact Tg h i (by omega) (by simp [Er, h0, Bg]) (by simp [K9, h0, Ic])
 ·exact W7 h i (by omega) false (by simp [h0]) (fun _ => by simp [Er, h0, Bg]) (fun _ => by simp [K9, h0, Ic])
 ·exact W7 h i (by omega) true (by simp [h0]) (fun _ => by simp [Er, h0, Bg]) (fun _ => by simp [K9, h0, Ic])
 ·exact Tg h i (by omega) (by simp [Er, h0, Bg, Ki]) (by simp [K9, h0, Ic])
 ·exact Af0 h i (by omega) (by simp [Er, h0, Bg, Ki]) (by simp [K9, h0, Ic])
theorem Agh {e : AD} (h : Dg e) (i : AA) (ho : i.Op.toNat < 34) : KB e i = some (if CX e i = 0 then (⟨Er e i, K9 e i⟩, 0) else (⟨[], Gv.nil⟩, CX e i)) := by
 unfold KB
 rw [size_eq, Ha, Am6]
 have hz : C6 i.Op ≠ 0 := by unfold C6; rw [Ay (by omega)]; omega
 rw [Ay (by rw [AG]; omega)]
 unfold step_table HV
 rw [Am6, Am6, Am6, Am6]
 have hlen : (Mb ⟨4, 1⟩ ⟨4, 2⟩ ⟨4, 4⟩).length = 34 := by simp [Mb, Su, Rm, Si, Rt, NE, N7, NI, RJ, S5, RX, S6, Rf, RY, S4, N8, RQ, RF, N1, Rj, Rp, Rz, RE, Sx, Sa, Ut, Um, Uv, TE, TX, TN, TA, Uk, Ug, TP]
 rcases ht : (Mb ⟨4, 1⟩ ⟨4, 2⟩ ⟨4, 4⟩)[i.Op.toNat]? with _ | t
 ·rw [List.getElem?_eq_none_iff, hlen] at ht; omega
 ·rw [Am6, show (⟨e.Classes, e.AP, e.Fn⟩ : AD) = e from rfl, show (⟨i.At, i.Op, i.A, i.B⟩ : AA) = i from rfl, Ae5 h i t ho ht, Am6]
theorem Aga (e : AD) (i : AA) (ho : ¬ i.Op.toNat < 34) : KB e i = some (⟨[], Gv.nil⟩, 40) := by
 unfold KB
 rw [size_eq, Ha, Am6]
 have hz : C6 i.Op = 0 := by unfold C6; rw [A1 (by omega)]
 rw [hz, A1 (by simp)]
end Go.Proofs.YtfcpkcehecmcpaaGreat
namespace Go.Proofs.YtfcpkcehecmcpaaGreat
open Go Go.RowKit Go.Pv
def Co (f : A3) (n : Nat) : List UInt8 := (f.Slots.toList.drop ((f.Locals + f.Height).toNat - n)).take n
theorem O8 {f : A3} (h : Fb f) {n : Nat} (hn : n ≤ f.Height) : (Co f n).length = n := by
 have := h.num
 unfold Co
 rw [Ane, List.length_drop, Vector.length_toList]
 omega
theorem Yp {f : A3} (h : Fb f) {n : Nat} (hn : n ≤ f.Height) {i : Nat} (hi : i < n) : (Co f n)[i]? = f.Slots.toList[(f.Locals + f.Height).toNat - n + i]? := by
 have := h.num
 unfold Co
 rw [List.getElem?_take, A1 hi, List.getElem?_drop]
theorem Aet {l : List A9} {f : A3} (h : ON l f.Slots) {n : Nat} : ∀ t ∈ Co f n, tv l t = true := by
 intro t ht
 unfold Co at ht
 have := List.mem_of_mem_drop (List.mem_of_mem_take ht)
 rw [← Ng, List.all_eq_true] at h
 exact h t this
def Nr (l : List A9) (w : A8) (t first : UInt8) : Bool :=
 if w.kind = 1 then decide (t.toNat ≠ 0) else if w.kind = 2 then rf t else if w.kind = 3 then decide (t = first ∧ (t.toNat = 1 ∨ t.toNat = 2)) else if w.kind = 4 then decide (Le l t w.t) else true
theorem Afl (l : List A9) (G : Good l) (w : A8) (t first : UInt8) : N3 l w t first = some (Nr l w t first) := by
 unfold N3 Nr
 by_cases h1 : w.kind = 1
 ·rw [A1 (by rw [AG]; exact h1), A1 h1]
  congr 1
  rw [An7, AN, Az]
  omega
 ·rw [Ay (by rw [AG]; exact h1), Ay h1]
  by_cases h2 : w.kind = 2
  ·rw [A1 (by rw [AG]; exact h2), A1 h2, Ny, Am6]
  ·rw [Ay (by rw [AG]; exact h2), Ay h2]
   by_cases h3 : w.kind = 3
   ·rw [A1 (by rw [AG]; exact h3), A1 h3, Aa5]
    by_cases h : t = first
    ·rw [A1 (by simpa using h)]
     by_cases h1 : t.toNat = 1
     ·rw [A1 (by rw [h1]; rfl), decide_eq_true ⟨h, Or.inl h1⟩]
     ·rw [Ay (by rw [AG]; omega)]
      congr 1
      rw [An7, AG, Az]
      constructor
      ·intro h2; exact ⟨h, Or.inr (by omega)⟩
      ·rintro ⟨_, h2 | h2⟩ <;> omega
    ·rw [Ay (by simpa using h), decide_eq_false (by rintro ⟨h', _⟩; exact h h')]
   ·rw [Ay (by rw [AG]; exact h3), Ay h3]
    by_cases h4 : w.kind = 4
    ·rw [A1 (by rw [AG]; exact h4), A1 h4, VL l G, Am6]
    ·rw [Ay (by rw [AG]; exact h4), Ay h4]
def allFit (l : List A9) (w : List A8) (had : List UInt8) : Bool := (List.range had.length).all fun i => Nr l ((w[i]?).getD ⟨0, 0⟩) ((had[i]?).getD 0) ((had[0]?).getD 0)
theorem Acx (l : List A9) (G : Good l) {f : A3} (h : Fb f) (w : List A8) : Lb l f w = some (if f.Height < w.length then ([], 30) else if allFit l w (Co f w.length) = true then (Co f w.length, 0) else ([], 70)) := by
 have hh := h.num
 unfold Lb
 by_cases hw : f.Height < w.length
 ·rw [A1 (by rw [Az]; exact hw), A1 hw]
 ·rw [Ay (by rw [Az]; exact hw), Ay hw]
  have hlen := O8 h (n := w.length) (by omega)
  have h1 : AQ (Hg f w) (([] : List UInt8), 0) = some ((Co f w.length).map id) := by
   refine Nk (Co f w.length) id (fun i hi acc ha => ?_) (fun acc => ?_)
   ·rw [hlen] at hi
    unfold Hg
    dsimp only
    rw [A1 (by rw [Az]; omega), show (⟨f.Locals, f.Height, f.Slots⟩ : A3) = f from rfl, Cc (n := (w.length : Int) - 1) (by omega) (by omega), Cc (by omega) (by omega)]
    obtain ⟨x, hx, hx2⟩ := Z9 h (w.length - 1 - i) (by omega)
    rw [show (w.length : Int) - 1 - i = ((w.length - 1 - i : Nat) : Int) by omega, hx, Am6]
    have hg := Yp h (n := w.length) (by omega) hi
    rw [show (f.Locals + f.Height).toNat - w.length + i = (f.Locals + f.Height).toNat - 1 - (w.length - 1 - i) by omega, hx2] at hg
    dsimp only
    rw [C9 (by simp; omega), Am6, CU (by omega)]
    rw [Am8 (by omega)] at hg
    rw [Option.some.inj hg]
    rfl
   ·unfold Hg
    dsimp only
    rw [hlen, Ay (by rw [Az]; omega)]
  rw [h1, Am6, List.map_id]
  generalize hH : Co f w.length = had at *
  have hl := FO (R := (List UInt8 × Int) ⊕ Unit) had.length (body := Hf l w had) (fun i => if Nr l ((w[i]?).getD ⟨0, 0⟩) ((had[i]?).getD 0) ((had[0]?).getD 0) = true then none else some (.inl ([], 70))) (r0 := .inr ()) (fun i hi => by
   unfold Hf
   have h0 : idx had 0 = some ((had[0]?).getD 0) := Fc (i := 0) (by omega) (by omega) 0
   have hi' : idx had (i : Int) = some ((had[i]?).getD 0) := Fc (i := (i : Int)) (by omega) (by omega) 0
   have hw' : idx w (i : Int) = some ((w[i]?).getD ⟨0, 0⟩) := Fc (l := w) (i := (i : Int)) (by omega) (by omega) (⟨0, 0⟩ : A8)
   rw [A1 (by rw [Az]; omega), hi', Am6, hw', Am6, h0, Am6, Afl l G, Am6, CU (by omega)]
   rcases Nr l ((w[i]?).getD ⟨0, 0⟩) ((had[i]?).getD 0) ((had[0]?).getD 0) with _ | _ <;> rfl) (by
   unfold Hf
   rw [Ay (by rw [Az]; omega)])
  rw [hl, Am6]
  rcases hf : (List.range had.length).findSome? (fun i => if Nr l ((w[i]?).getD ⟨0, 0⟩) ((had[i]?).getD 0) ((had[0]?).getD 0) = true then none else some (Sum.inl (([] : List UInt8), (70 : Int)) : (List UInt8 × Int) ⊕ Unit)) with _ | r
  ·have ha : allFit l w had = true := by
    unfold allFit
    rw [List.all_eq_true]
    intro i hi
    have := (List.findSome?_eq_none_iff.1 hf) i hi
    rcases hx : Nr l ((w[i]?).getD ⟨0, 0⟩) ((had[i]?).getD 0) ((had[0]?).getD 0) with _ | _
    ·rw [hx] at this; simp at this
    ·rfl
   rw [A1 ha]
   rfl
  ·obtain ⟨i, hi, hr⟩ := List.exists_of_findSome?_eq_some hf
   have ha : allFit l w had ≠ true := by
    intro ha
    unfold allFit at ha
    rw [List.all_eq_true] at ha
    rw [A1 (ha i hi)] at hr
    cases hr
   rw [Ay ha]
   split at hr
   ·cases hr
   ·cases hr; rfl
def JP (l : List A9) (t want : UInt8) : Bool := if want = 255 then true else if want = 254 then decide (t.toNat ≠ 0) else if want = 253 then rf t else decide (Le l t want)
theorem YG {a : UInt8} {k : Nat} (hk : k < 256) : ((a.toNat : Int) == (k : Int)) = decide (a = UInt8.ofNat k) := by
 rw [BR]
 rw [decide_eq_decide]
 constructor
 ·intro h
  apply UInt8.toNat_inj.1
  simp [h]
  omega
 ·rintro rfl
  simp
  omega
theorem Aaq (l : List A9) (G : Good l) (t want : UInt8) : Kc l t want = some (JP l t want) := by
 unfold Kc JP
 have e255 : ((want.toNat : Int) == 255) = decide (want = 255) := YG (k := 255) (by omega)
 have e254 : ((want.toNat : Int) == 254) = decide (want = 254) := YG (k := 254) (by omega)
 have e253 : ((want.toNat : Int) == 253) = decide (want = 253) := YG (k := 253) (by omega)
 rw [e255, e254, e253]
 simp only [Az]
 by_cases h1 : want = 255
 ·rw [A1 h1, A1 h1]
 ·rw [Ay h1, Ay h1]
  by_cases h2 : want = 254
  ·rw [A1 h2, A1 h2]
   congr 1
   rw [An7, AN, Az]
   omega
  ·rw [Ay h2, Ay h2]
   by_cases h3 : want = 253
   ·rw [A1 h3, A1 h3, RN, Am6]
   ·rw [Ay h3, Ay h3, SV l G, Am6]
theorem Ac5 (l : List A9) (t want first : UInt8) : Nr l (Ki want) t first = JP l t want := by
 unfold Ki JP Nr
 by_cases h1 : want = 255
 ·rw [A1 h1, A1 h1]; rfl
 ·rw [Ay h1, Ay h1]
  by_cases h2 : want = 254
  ·rw [A1 h2, A1 h2]; rfl
  ·rw [Ay h2, Ay h2]
   by_cases h3 : want = 253
   ·rw [A1 h3, A1 h3]; rfl
   ·rw [Ay h3, Ay h3]; rfl
def Oq (l : List A9) (w had : List UInt8) : Bool := (List.range had.length).all fun i => JP l ((had[i]?).getD 0) ((w[i]?).getD 0)
theorem Ags (e : AD) (G : Good e.Classes) {f : A3} (h : Fb f) (w : List UInt8) (hw : w.length ≤ f.Height) : AQ (DD e f w) (([] : List UInt8), 0) = some (if Oq e.Classes w (Co f w.length) = true then .inr (Co f w.length) else .inl (zf, 70)) := by
 have hh := h.num
 have hlen := O8 h (n := w.length) hw
 generalize hH : Co f w.length = had at *
 have step : ∀ (acc : List UInt8) (i : Nat) (hi : i < had.length), acc.length = i → DD e f w (acc, (i : Int)) = if JP e.Classes ((had[i]?).getD 0) ((w[i]?).getD 0) = true then some (.inl (acc ++ [(had[i]?).getD 0], ((i + 1 : Nat) : Int))) else some (.inr (.inl (zf, 70))) := by
  intro acc i hi ha
  unfold DD
  dsimp only
  have hw' : idx w (i : Int) = some ((w[i]?).getD 0) := Fc (i := (i : Int)) (by omega) (by omega) 0
  have hg := Yp h (n := w.length) hw (i := i) (by omega)
  rw [hH] at hg
  have hk : (f.Locals + f.Height).toNat - w.length + i < 24 := by omega
  have hx : idx f.Slots.toList (wr ((wr ((wr (f.Locals + f.Height)) - (w.length : Int))) + (i : Int))) = some ((had[i]?).getD 0) := by
   rw [Cc (n := f.Locals + f.Height) (by omega) (by omega), Cc (n := f.Locals + f.Height - w.length) (by omega) (by omega), Cc (by omega) (by omega)]
   rw [show f.Locals + f.Height - (w.length : Int) + (i : Int) = (((f.Locals + f.Height).toNat - w.length + i : Nat) : Int) by omega, Ot, ← hg, Am8 hi]
   rfl
  rw [A1 (by rw [Az]; omega), hw', Am6, hx, Am6, Aaq _ G, Am6]
  rcases JP e.Classes ((had[i]?).getD 0) ((w[i]?).getD 0) with _ | _
  ·rw [A1 (by simp), Ay (by simp)]
  ·rw [Ay (by simp), A1 rfl, C9 (by simp; omega), Am6, CU (by omega)]
 have stop : ∀ acc, DD e f w (acc, (had.length : Int)) = some (.inr (.inr acc)) := by
  intro acc
  unfold DD
  dsimp only
  rw [Ay (by rw [Az]; omega)]
 have key : ∀ k i, i + k = had.length → AQ (DD e f w) (had.take i, (i : Int)) = some (if ((List.range' i k).all fun j => JP e.Classes ((had[j]?).getD 0) ((w[j]?).getD 0)) = true then .inr had else .inl (zf, 70)) := by
  intro k
  induction k with
  | zero =>
   intro i hi
   rw [show i = had.length by omega, Bm (stop _), An3]
   rfl
  | succ k ih =>
   intro i hi
   have hi' : i < had.length := by omega
   have hs := step (had.take i) i hi' (by rw [Ane]; omega)
   rw [List.range'_succ, List.all_cons]
   by_cases hw' : JP e.Classes ((had[i]?).getD 0) ((w[i]?).getD 0) = true
   ·rw [A1 hw'] at hs
    rw [BQ hs, hw', Bool.true_and]
    have : had.take i ++ [(had[i]?).getD 0] = had.take (i + 1) := by
     rw [Am8 hi', Am7, Ant]
    rw [this]
    exact ih (i + 1) (by omega)
   ·rw [Ay hw'] at hs
    rw [Bm hs, Ay]
    rw [An6]
    rintro ⟨h, _⟩; exact hw' h
 have := key had.length 0 (by omega)
 rw [List.take_zero] at this
 unfold Oq
 rw [List.range_eq_range']
 exact this
end Go.Proofs.YtfcpkcehecmcpaaGreat
namespace Go.Proofs.YtfcpkcehecmcpaaGreat
open Go Go.RowKit Go.Pv
def okV (e : AD) (i : AA) (had : List UInt8) : Bool := Oq e.Classes (Bg e i) had && (decide (i.Op.toNat ≠ 16) || decide ((had[0]?).getD 0 = (had[1]?).getD 0 ∧ (((had[0]?).getD 0).toNat = 1 ∨ ((had[0]?).getD 0).toNat = 2)))
theorem all_congr {l : List Nat} {p q : Nat → Bool} (h : ∀ x ∈ l, p x = q x) : l.all p = l.all q := by
 induction l with
 | nil => rfl
 | cons a l ih => rw [List.all_cons, List.all_cons, h a (by simp), ih fun x hx => h x (by simp [hx])]
theorem ok_eq (e : AD) (i : AA) {had : List UInt8} (hl : had.length = (Bg e i).length) : allFit e.Classes (Er e i) had = okV e i had := by
 unfold okV
 by_cases h : i.Op.toNat = 16
 ·have ht : Bg e i = [255, 255] := by unfold Bg; simp [h]
  rw [ht] at hl ⊢
  unfold Er
  rw [A1 h, decide_eq_false (by simp [h]), Bool.false_or]
  match had, hl with
  | [a, b], _ =>
   unfold allFit Oq Nr JP
   rw [show (List.range ([a, b] : List UInt8).length) = [0, 1] from rfl]
   simp only [List.all_cons, List.all_nil, Bool.and_true, List.getElem?_cons_zero, List.getElem?_cons_succ, Am7]
   rw [An7]
   simp
   constructor
   ·rintro ⟨h1, h2, h3⟩; exact ⟨h2.symm, h1⟩
   ·rintro ⟨h1, h2⟩
    subst h1
    exact ⟨h2, rfl, h2⟩
 ·rw [decide_eq_true h, Bool.true_or, Bool.and_true]
  unfold allFit Oq Er
  rw [Ay h]
  refine all_congr fun j hj => ?_
  have hj' : j < (Bg e i).length := by rw [Anj] at hj; omega
  rw [List.getElem?_map, Am8 hj', Option.map_some, Am7, Am7, Ac5]
def KX (f : A3) (i : AA) : UInt8 := (f.Slots.toList[i.A.toNat]?).getD 0
def J2 (e : AD) (f : A3) (i : AA) (had : List UInt8) : List UInt8 :=
 if i.Op.toNat = 4 then [KX f i] else if i.Op.toNat = 7 then [(had[0]?).getD 0, (had[0]?).getD 0] else if i.Op.toNat = 8 then [(had[1]?).getD 0, (had[0]?).getD 0] else Ic e i
noncomputable def P5 (f : A3) (i : AA) (had gives : List UInt8) : A3 × Int :=
 if i.Op.toNat = 22 ∧ (Dx f had.length).Height > 0 then (zf, 73) else JF (if i.Op.toNat = 5 then Qn (Dx f had.length) i.A ((had[0]?).getD 0) else Dx f had.length) gives
noncomputable def D9 (e : AD) (f : A3) (i : AA) : A3 × Int :=
 if ¬ i.Op.toNat < 34 then (zf, 40)
 else if (i.Op.toNat = 4 ∨ i.Op.toNat = 5) ∧ ¬ (0 ≤ i.A ∧ i.A < f.Locals) then (zf, 33)
 else if CX e i ≠ 0 then (zf, CX e i)
 else if f.Height < (Bg e i).length then (zf, 30)
 else if okV e i (Co f (Bg e i).length) = false then (zf, 70)
 else if i.Op.toNat = 4 ∧ (KX f i).toNat = 0 then (zf, 70)
 else P5 f i (Co f (Bg e i).length) (J2 e f i (Co f (Bg e i).length))
theorem Aew {e : AD} (h : Dg e) (i : AA) (h0 : CX e i = 0) : (Bg e i).length ≤ 8 := by
 unfold Bg
 split <;> try (simp; done)
 ·rename_i h21
  unfold CX at h0
  rw [A1 h21] at h0
  by_cases ha : 0 ≤ i.A ∧ i.A < e.AP.length
  ·exact (SR h (TV ha.1 ha.2)).1
  ·rw [Ay ha] at h0; cases h0
 ·unfold J1; split <;> simp
theorem Yu (e : AD) (f : A3) (i : AA) (had : List UInt8) : (J2 e f i had).length ≤ 2 := by
 unfold J2
 split
 ·simp
 ·split
  ·simp
  ·split
   ·simp
   ·unfold Ic
    split <;> try (simp; done)
    all_goals (unfold J1; split <;> simp)
theorem Aft {f : A3} (h : Fb f) {i : AA} (h0 : 0 ≤ i.A) (h1 : i.A < f.Locals) : idx f.Slots.toList i.A = some (KX f i) := by
 have := h.num
 exact Fc h0 (by simp; omega) 0
theorem UF {f : A3} (h : Fb f) (i : AA) {had gives : List UInt8} (hn : had.length ≤ f.Height) (hg : gives.length ≤ 2) (h5 : i.Op.toNat = 5 → had ≠ [] ∧ 0 ≤ i.A ∧ i.A < f.Locals) : HO f i had gives = some (P5 f i had gives) := by
 have hh := h.num
 unfold HO
 rw [Wk had.length h hn (fun g k hk hg hgh => by
   obtain ⟨x, hx⟩ := Ah2 hg hgh
   unfold HU
   dsimp only
   rw [A1 (by rw [Az]; omega), show (⟨g.Locals, g.Height, g.Slots⟩ : A3) = g from rfl, hx, Am6, CU (by omega)]) (fun g => by
   unfold HU
   dsimp only
   rw [Ay (by rw [Az]; omega)]), Am6]
 have hp := SG h had.length hn
 have hpL : (Dx f had.length).Locals = f.Locals := by unfold Dx Eb; dsimp only
 unfold P5
 generalize Dx f had.length = g at *
 dsimp only
 have e22 : ((i.Op.toNat : Int) == 22) = decide (i.Op.toNat = 22) := BR _ 22
 have e5 : ((i.Op.toNat : Int) == 5) = decide (i.Op.toNat = 5) := BR _ 5
 rw [e22, e5]
 by_cases h22 : i.Op.toNat = 22 ∧ g.Height > 0
 ·rw [A1 h22, A1 (by rw [Az]; exact h22.1), A1 (by rw [Az]; exact h22.2), Am6]
 ·rw [Ay h22]
  have hx : (if decide (i.Op.toNat = 22) = true then if decide (g.Height > 0) = true then some (Sum.inl (zf, (73 : Int)) : (A3 × Int) ⊕ Unit) else some (.inr ()) else some (.inr ())) = some (.inr ()) := by
   by_cases h1 : i.Op.toNat = 22
   ·rw [A1 (by rw [Az]; exact h1), Ay (by rw [Az]; exact fun h2 => h22 ⟨h1, h2⟩)]
   ·rw [Ay (by rw [Az]; exact h1)]
  rw [hx, Am6]
  dsimp only
  have hy : ∀ f2 : A3, Fb f2 → ((AQ (Ft gives) (f2.Locals, f2.Height, f2.Slots, 0) : Option ((A3 × Int) ⊕ (Int × Int × (Vector UInt8 24))))).bind (fun o6044 => (match o6044 with | .inl p6987 => (some p6987) | .inr p6047 => (some ((⟨p6047.1, p6047.2.1, p6047.2.2⟩ : A3), (0 : Int))))) = some (JF f2 gives) := by
   intro f2 hf2
   have := Tr (body := Ft gives) gives (by omega) (fun f3 k hk hf3 => by
    unfold Ft
    dsimp only
    rw [A1 (by rw [Az]; omega), Bv hk, Am6, show (⟨f3.Locals, f3.Height, f3.Slots⟩ : A3) = f3 from rfl, Ael hf3, Am6]
    by_cases h24 : f3.Locals + f3.Height = 24
    ·rw [A1 h24, A1 h24]; rfl
    ·rw [Ay h24, Ay h24, CU (by omega)]; rfl) (fun f3 => by
    unfold Ft
    dsimp only
    rw [Ay (by rw [Az]; omega)]) gives.length 0 f2 (by omega) hf2
   rw [show ((0 : Nat) : Int) = 0 from rfl, List.drop_zero] at this
   rw [this, Am6]
   rcases hq : JF f2 gives with ⟨f3, x⟩
   by_cases hx0 : x = 0
   ·subst hx0; rfl
   ·dsimp only; rw [Ay hx0]
  by_cases h5' : i.Op.toNat = 5
  ·obtain ⟨hne, h50, h51⟩ := h5 h5'
   have hl0 : 0 < had.length := List.length_pos_iff.2 hne
   rw [A1 (by rw [Az]; exact h5'), A1 h5', show idx had 0 = some ((had[0]?).getD 0) from Fc (i := 0) (by omega) (by omega) 0, Am6, Ace hp h50 (by omega), Am6, Am6]
   exact hy (Qn g i.A ((had[0]?).getD 0)) (VF hp _ h50 (by omega))
  ·rw [Ay (by rw [Az]; exact h5'), Ay h5', Am6]
   exact hy g hp
theorem Aiw (e : AD) (f : A3) (i : AA) {had : List UInt8} (hl : had.length = (Bg e i).length) (h4 : i.Op.toNat ≠ 4) : Gv.run (K9 e i) had = some (J2 e f i had) := by
 unfold K9 J2
 by_cases h7 : i.Op.toNat = 7
 ·have ht : Bg e i = [255] := by unfold Bg; simp [h7]
  rw [ht] at hl
  simp only [h4, h7, if_true, if_false]
  match had, hl with
  | [a], _ => rfl
 ·by_cases h8 : i.Op.toNat = 8
  ·have ht : Bg e i = [255, 255] := by unfold Bg; simp [h8]
   rw [ht] at hl
   simp only [h4, h7, h8, if_true, if_false]
   match had, hl with
   | [a, b], _ => rfl
  ·simp only [h4, h7, h8, if_true, if_false]
   rfl
theorem Xj {e : AD} {i : AA} (h : i.Op.toNat = 4 ∨ i.Op.toNat = 5) : CX e i = 0 := by
 unfold CX
 rw [Ay (by omega), Ay (by omega), Ay (by omega)]
theorem ZP {e : AD} {i : AA} (h : i.Op.toNat = 5) : Bg e i = [254] := by unfold Bg; simp [h]
theorem Vh {e : AD} (h : Dg e) {f : A3} (hb : Fb f) (i : AA) (h34 : i.Op.toNat < 34) (h0 : CX e i = 0) (hA : i.Op.toNat = 4 ∨ i.Op.toNat = 5 → 0 ≤ i.A ∧ i.A < f.Locals) :
  ((Lb e.Classes f (Er e i)).bind fun x464 => if (x464.2 != 0) = true then (some ((⟨0, 0, (Vector.replicate 24 (0 : UInt8))⟩ : A3), x464.2)) else ((Gv.run (K9 e i) x464.1).bind fun x545 => if ((i.Op.toNat : Int) == 4) = true then ((Jc f i.A).bind fun x668 => if ((x668.1.toNat : Int) == 0) = true then (some ((⟨0, 0, (Vector.replicate 24 (0 : UInt8))⟩ : A3), 70)) else ((HO f i x464.1 ([x668.1] : List UInt8)).bind fun x744 => some ((⟨x744.1.Locals, x744.1.Height, x744.1.Slots⟩ : A3), x744.2))) else ((HO f i x464.1 x545).bind fun x782 => some ((⟨x782.1.Locals, x782.1.Height, x782.1.Slots⟩ : A3), x782.2)))) =
  some (if f.Height < (Bg e i).length then (zf, 30)
   else if okV e i (Co f (Bg e i).length) = false then (zf, 70)
   else if i.Op.toNat = 4 ∧ (KX f i).toNat = 0 then (zf, 70)
   else P5 f i (Co f (Bg e i).length) (J2 e f i (Co f (Bg e i).length))) := by
 have hwl : (Er e i).length = (Bg e i).length := by
  unfold Er
  split
  ·rename_i h16
   have : Bg e i = [255, 255] := by unfold Bg; simp [h16]
   rw [this]; rfl
  ·rw [Ana]
 have e4 : ((i.Op.toNat : Int) == 4) = decide (i.Op.toNat = 4) := BR _ 4
 rw [Acx _ h.good hb, Am6, hwl]
 by_cases hH : f.Height < (Bg e i).length
 ·rw [A1 hH, A1 hH, A1 (by simp)]
 ·have hlen := O8 hb (n := (Bg e i).length) (by omega)
  rw [Ay hH, Ay hH, ok_eq e i hlen]
  rcases hok : okV e i (Co f (Bg e i).length) with _ | _
  ·rw [Ay (show ¬ (false = true) by simp), A1 (show false = false from rfl), A1 (by simp)]
  ·rw [A1 (show true = true from rfl), Ay (show ¬ (true = false) by simp)]
   dsimp only
   rw [Ay (by simp), e4]
   by_cases h4 : i.Op.toNat = 4
   ·obtain ⟨x, hx, hx2, hx3⟩ := YF hb (hA (Or.inl h4)).1 (hA (Or.inl h4)).2
    have hsl : KX f i = x := by unfold KX; rw [hx3]; rfl
    have hgv : Gv.run (K9 e i) (Co f (Bg e i).length) = some [0] := by unfold K9; rw [Ay (by omega), Ay (by omega), A1 h4]; rfl
    rw [hgv, Am6, A1 (by rw [Az]; exact h4), hx, Am6, hsl]
    dsimp only
    by_cases hx0 : x.toNat = 0
    ·rw [A1 (by rw [hx0]; rfl), A1 ⟨h4, hx0⟩]
    ·rw [Ay (by rw [AG]; omega), Ay (by rintro ⟨_, q⟩; exact hx0 q), UF hb i (by omega) (by simp) (fun q => by omega), Am6]
     unfold J2
     rw [A1 h4, hsl]
   ·rw [Aiw e f i hlen h4, Am6, Ay (by rw [Az]; exact h4), Ay (by rintro ⟨q, _⟩; exact h4 q), UF hb i (by omega) (Yu e f i _) (fun q => ⟨(by
     intro hn
     rw [hn, ZP q] at hlen
     cases hlen), hA (Or.inr q)⟩), Am6]
theorem Acf {e : AD} (h : Dg e) {f : A3} (hf : GR e.Classes f) (i : AA) : M5 e f i = some (D9 e f i) := by
 have hb := hf.fb
 unfold M5
 rw [show (⟨e.Classes, e.AP, e.Fn⟩ : AD) = e from rfl, show (⟨f.Locals, f.Height, f.Slots⟩ : A3) = f from rfl, show (⟨i.At, i.Op, i.A, i.B⟩ : AA) = i from rfl, Aka e h.good.tab, ZA e h, Am6, Ay (by simp), Rc hf, Am6, Ay (by simp)]
 have e4 : ((i.Op.toNat : Int) == 4) = decide (i.Op.toNat = 4) := BR _ 4
 have e5 : ((i.Op.toNat : Int) == 5) = decide (i.Op.toNat = 5) := BR _ 5
 have ho : (if ((i.Op.toNat : Int) == 4) = true then some true else some ((i.Op.toNat : Int) == 5)) = some (decide (i.Op.toNat = 4 ∨ i.Op.toNat = 5)) := by
  rw [e4, e5]
  by_cases q : i.Op.toNat = 4
  ·rw [A1 (by rw [Az]; exact q), decide_eq_true (Or.inl q)]
  ·rw [Ay (by rw [Az]; exact q)]
   congr 1
   rw [decide_eq_decide]
   exact ⟨Or.inr, fun h => h.resolve_left q⟩
 unfold D9
 by_cases h34 : i.Op.toNat < 34
 ·rw [Agh h i h34, Am6, ho, Am6, Ay (show ¬ ¬ i.Op.toNat < 34 from fun q => q h34)]
  by_cases hloc : i.Op.toNat = 4 ∨ i.Op.toNat = 5
  ·rw [Xj (e := e) hloc, A1 rfl]
   dsimp only
   rw [A1 (by rw [AG]), A1 (by rw [Az]; exact hloc)]
   by_cases hA : 0 ≤ i.A ∧ i.A < f.Locals
   ·rw [Ay (by rw [Az]; omega), Ay (by rw [Az]; omega), Am6, Ay (by simp), Ay (show ¬ ((i.Op.toNat = 4 ∨ i.Op.toNat = 5) ∧ ¬ (0 ≤ i.A ∧ i.A < f.Locals)) from fun q => q.2 hA), Ay (show ¬ (0 : Int) ≠ 0 from fun q => q rfl)]
    exact Vh h hb i h34 (Xj hloc) (fun _ => hA)
   ·rw [A1 (show ((i.Op.toNat = 4 ∨ i.Op.toNat = 5) ∧ ¬ (0 ≤ i.A ∧ i.A < f.Locals)) from ⟨hloc, hA⟩)]
    by_cases h1 : i.A < 0
    ·rw [A1 (by rw [Az]; exact h1), Am6, A1 (by simp)]
    ·rw [Ay (by rw [Az]; exact h1), A1 (by rw [Az]; omega), Am6, A1 (by simp)]
  ·rw [Ay (show ¬ ((i.Op.toNat = 4 ∨ i.Op.toNat = 5) ∧ ¬ (0 ≤ i.A ∧ i.A < f.Locals)) from fun q => hloc q.1), decide_eq_false hloc]
   by_cases h0 : CX e i = 0
   ·rw [A1 h0, Ay (show ¬ CX e i ≠ 0 from fun q => q h0)]
    dsimp only
    rw [A1 (by rw [AG]), Ay (by simp), Am6, Ay (by simp)]
    exact Vh h hb i h34 h0 (fun q => absurd q hloc)
   ·rw [Ay h0, A1 (show CX e i ≠ 0 from h0)]
    dsimp only
    rw [Ay (by rw [AG]; exact h0), Am6, A1 (by rw [AN]; exact h0)]
 ·rw [Aga e i h34, Am6, ho, Am6, A1 h34]
  dsimp only
  rw [Ay (by simp), Am6, A1 (by simp)]
end Go.Proofs.YtfcpkcehecmcpaaGreat
namespace Go.Proofs.YtfcpkcehecmcpaaGreat
open Go Go.RowKit Go.Pv
theorem UC {e : AD} (h : Dg e) {f : A3} (hb : Fb f) (i : AA) (h34 : i.Op.toNat < 34) (h0 : CX e i = 0) (hA : i.Op.toNat = 4 ∨ i.Op.toNat = 5 → 0 ≤ i.A ∧ i.A < f.Locals) :
  IF e f i = some (if f.Height < (Bg e i).length then (zf, 30)
   else if okV e i (Co f (Bg e i).length) = false then (zf, 70)
   else if i.Op.toNat = 4 ∧ (KX f i).toNat = 0 then (zf, 70)
   else P5 f i (Co f (Bg e i).length) (J2 e f i (Co f (Bg e i).length))) := by
 have hh := hb.num
 have h8 := Aew h i h0
 unfold IF
 rw [show (⟨e.Classes, e.AP, e.Fn⟩ : AD) = e from rfl, show (⟨i.At, i.Op, i.A, i.B⟩ : AA) = i from rfl, Abw h i h34 h0, Am6]
 by_cases hH : f.Height < (Bg e i).length
 ·rw [A1 hH, A1 (by rw [Az]; exact hH)]
 ·have hlen := O8 hb (n := (Bg e i).length) (by omega)
  rw [Ay hH, Ay (by rw [Az]; exact hH), Ags e h.good hb _ (by omega), Am6]
  unfold okV
  rcases hw : Oq e.Classes (Bg e i) (Co f (Bg e i).length) with _ | _
  ·rw [Ay (show ¬ (false = true) by simp), Bool.false_and, A1 (show false = false from rfl)]
  ·rw [A1 (show true = true from rfl), Bool.true_and]
   dsimp only
   have e16 : ((i.Op.toNat : Int) == 16) = decide (i.Op.toNat = 16) := BR _ 16
   have e4 : ((i.Op.toNat : Int) == 4) = decide (i.Op.toNat = 4) := BR _ 4
   have e7 : ((i.Op.toNat : Int) == 7) = decide (i.Op.toNat = 7) := BR _ 7
   have e8 : ((i.Op.toNat : Int) == 8) = decide (i.Op.toNat = 8) := BR _ 8
   have e22 : ((i.Op.toNat : Int) == 22) = decide (i.Op.toNat = 22) := BR _ 22
   have e5 : ((i.Op.toNat : Int) == 5) = decide (i.Op.toNat = 5) := BR _ 5
   have hx16 : ((if ((i.Op.toNat : Int) == 16) = true then ((idx (Co f (Bg e i).length) 0).bind fun x6938 => (idx (Co f (Bg e i).length) 1).bind fun x6943 => if ((x6938.toNat : Int) != (x6943.toNat : Int)) = true then (some (.inl ((⟨0, 0, (Vector.replicate 24 (0 : UInt8))⟩ : A3), 70))) else ((idx (Co f (Bg e i).length) 0).bind fun x6967 => if ((x6967.toNat : Int) != 1) = true then ((idx (Co f (Bg e i).length) 0).bind fun x6973 => if ((x6973.toNat : Int) != 2) = true then (some (.inl ((⟨0, 0, (Vector.replicate 24 (0 : UInt8))⟩ : A3), 70))) else (some (.inr (())))) else (some (.inr (()))))) else (some (.inr (()))) : Option ((A3 × Int) ⊕ Unit))) =
     some (if (decide (i.Op.toNat ≠ 16) || decide (((Co f (Bg e i).length)[0]?).getD 0 = ((Co f (Bg e i).length)[1]?).getD 0 ∧ ((((Co f (Bg e i).length)[0]?).getD 0).toNat = 1 ∨ (((Co f (Bg e i).length)[0]?).getD 0).toNat = 2))) = false then .inl (zf, 70) else .inr ()) := by
    rw [e16]
    by_cases q : i.Op.toNat = 16
    ·have ht : Bg e i = [255, 255] := by unfold Bg; simp [q]
     rw [ht] at hlen ⊢
     generalize Co f ([255, 255] : List UInt8).length = had at *
     rw [A1 (by rw [Az]; exact q), decide_eq_false (p := i.Op.toNat ≠ 16) (by simp [q]), Bool.false_or]
     match had, hlen with
     | [a, b], _ =>
      rw [show idx [a, b] 0 = some a from rfl, show idx [a, b] 1 = some b from rfl, Am6, Am6, Am6, Am6]
      simp only [List.getElem?_cons_zero, List.getElem?_cons_succ, Am7]
      by_cases h1 : a = b
      ·subst h1
       rw [Ay (by simp)]
       by_cases h2 : a.toNat = 1
       ·rw [Ay (by rw [AN]; omega), Ay (by simp [h2])]
       ·rw [A1 (by rw [AN]; omega)]
        by_cases h3 : a.toNat = 2
        ·rw [Ay (by rw [AN]; omega), Ay (by simp [h3])]
        ·rw [A1 (by rw [AN]; omega), A1 (by simp [h2, h3])]
      ·rw [A1, A1 (by simp [h1])]
       rw [AN]
       intro h2
       apply h1
       apply UInt8.toNat_inj.1
       omega
    ·rw [Ay (by rw [Az]; exact q), decide_eq_true (p := i.Op.toNat ≠ 16) q, Bool.true_or, Ay (by simp)]
   rw [hx16, Am6]
   generalize hok : (decide (i.Op.toNat ≠ 16) || decide (((Co f (Bg e i).length)[0]?).getD 0 = ((Co f (Bg e i).length)[1]?).getD 0 ∧ ((((Co f (Bg e i).length)[0]?).getD 0).toNat = 1 ∨ (((Co f (Bg e i).length)[0]?).getD 0).toNat = 2))) = ok
   rcases ok with _ | _
   ·rw [A1 (show false = false from rfl), A1 (show false = false from rfl)]
   ·rw [Ay (show ¬ (true = false) by simp), Ay (show ¬ (true = false) by simp)]
    dsimp only
    rw [Ad0 h i h34 h0, Am6, e4, e7, e8]
    have hg : ((if decide (i.Op.toNat = 4) = true then ((idx f.Slots.toList i.A).bind fun x7536 => if ((x7536.toNat : Int) == 0) = true then (some (.inl ((⟨0, 0, (Vector.replicate 24 (0 : UInt8))⟩ : A3), 70))) else ((idx f.Slots.toList i.A).bind fun x7560 => some (.inr (([x7560] : List UInt8))))) else (if decide (i.Op.toNat = 7) = true then ((idx (Co f (Bg e i).length) 0).bind fun x7588 => (idx (Co f (Bg e i).length) 0).bind fun x7593 => some (.inr (([x7588, x7593] : List UInt8)))) else (if decide (i.Op.toNat = 8) = true then ((idx (Co f (Bg e i).length) 1).bind fun x7619 => (idx (Co f (Bg e i).length) 0).bind fun x7624 => some (.inr (([x7619, x7624] : List UInt8)))) else (some (.inr (Ic e i))))) : Option ((A3 × Int) ⊕ ((List UInt8))))) =
      some (if i.Op.toNat = 4 ∧ (KX f i).toNat = 0 then .inl (zf, 70) else .inr (J2 e f i (Co f (Bg e i).length))) := by
     unfold J2
     by_cases q4 : i.Op.toNat = 4
     ·have hA4 := hA (Or.inl q4)
      rw [A1 (by rw [Az]; exact q4), Aft hb hA4.1 hA4.2, Am6, Am6]
      by_cases hx0 : (KX f i).toNat = 0
      ·rw [A1 (by rw [hx0]; rfl), A1 ⟨q4, hx0⟩]
      ·rw [Ay (by rw [AG]; omega), Ay (by rintro ⟨_, q⟩; exact hx0 q), A1 q4]
     ·rw [Ay (by rw [Az]; exact q4), Ay (show ¬ (i.Op.toNat = 4 ∧ (KX f i).toNat = 0) from fun q => q4 q.1), Ay q4]
      by_cases q7 : i.Op.toNat = 7
      ·have ht : Bg e i = [255] := by unfold Bg; simp [q7]
       rw [ht] at hlen ⊢
       rw [A1 (by rw [Az]; exact q7), A1 q7, show idx (Co f ([255] : List UInt8).length) 0 = some (((Co f ([255] : List UInt8).length)[0]?).getD 0) from Fc (i := 0) (by omega) (by rw [hlen]; simp) 0]
       rfl
      ·rw [Ay (by rw [Az]; exact q7), Ay q7]
       by_cases q8 : i.Op.toNat = 8
       ·have ht : Bg e i = [255, 255] := by unfold Bg; simp [q8]
        rw [ht] at hlen ⊢
        rw [A1 (by rw [Az]; exact q8), A1 q8, show idx (Co f ([255, 255] : List UInt8).length) 0 = some (((Co f ([255, 255] : List UInt8).length)[0]?).getD 0) from Fc (i := 0) (by omega) (by rw [hlen]; simp) 0, show idx (Co f ([255, 255] : List UInt8).length) 1 = some (((Co f ([255, 255] : List UInt8).length)[1]?).getD 0) from Fc (i := 1) (by omega) (by rw [hlen]; simp) 0]
        rfl
       ·rw [Ay (by rw [Az]; exact q8), Ay q8]
    rw [hg, Am6]
    by_cases hbad : i.Op.toNat = 4 ∧ (KX f i).toNat = 0
    ·rw [A1 hbad, A1 hbad]
    ·rw [Ay hbad, Ay hbad]
     dsimp only
     rw [Wk (Bg e i).length hb (by omega) (fun g k hk hg hgh => by
       obtain ⟨x, hx⟩ := Aih hg hgh
       unfold Jq
       dsimp only
       rw [A1 (by rw [Az]; omega), show (⟨g.Locals, g.Height, g.Slots⟩ : A3) = g from rfl, hx, Am6, CU (by omega)]) (fun g => by
       unfold Jq
       dsimp only
       rw [Ay (by rw [Az]; omega)]), Am6]
     unfold P5
     rw [hlen]
     have hp := SG hb (Bg e i).length (by omega)
     have hpL : (Dx f (Bg e i).length).Locals = f.Locals := by unfold Dx Eb; dsimp only
     generalize Dx f (Bg e i).length = g at *
     dsimp only
     rw [e22, e5]
     by_cases h22 : i.Op.toNat = 22 ∧ g.Height > 0
     ·rw [A1 h22, A1 (by rw [Az]; exact h22.1), A1 (by rw [Az]; exact h22.2), Am6]
     ·rw [Ay h22]
      have hx : (if decide (i.Op.toNat = 22) = true then if decide (g.Height > 0) = true then some (Sum.inl (zf, (73 : Int)) : (A3 × Int) ⊕ Unit) else some (.inr ()) else some (.inr ())) = some (.inr ()) := by
       by_cases h1 : i.Op.toNat = 22
       ·rw [A1 (by rw [Az]; exact h1), Ay (by rw [Az]; exact fun h2 => h22 ⟨h1, h2⟩)]
       ·rw [Ay (by rw [Az]; exact h1)]
      rw [hx, Am6]
      dsimp only
      have hgl := Yu e f i (Co f (Bg e i).length)
      generalize J2 e f i (Co f (Bg e i).length) = gives at *
      have hy : ∀ f2 : A3, Fb f2 → ((AQ (Fq gives) (f2.Locals, f2.Height, f2.Slots, 0) : Option ((A3 × Int) ⊕ (Int × Int × (Vector UInt8 24))))).bind (fun o13581 => (match o13581 with | .inl p14524 => (some p14524) | .inr p13584 => (some ((⟨p13584.1, p13584.2.1, p13584.2.2⟩ : A3), (0 : Int))))) = some (JF f2 gives) := by
       intro f2 hf2
       have := Tr (body := Fq gives) gives (by omega) (fun f3 k hk hf3 => by
        unfold Fq
        dsimp only
        rw [A1 (by rw [Az]; omega), Bv hk, Am6, show (⟨f3.Locals, f3.Height, f3.Slots⟩ : A3) = f3 from rfl, Afh hf3, Am6]
        by_cases h24 : f3.Locals + f3.Height = 24
        ·rw [A1 h24, A1 h24]; rfl
        ·rw [Ay h24, Ay h24, CU (by omega)]; rfl) (fun f3 => by
        unfold Fq
        dsimp only
        rw [Ay (by rw [Az]; omega)]) gives.length 0 f2 (by omega) hf2
       rw [show ((0 : Nat) : Int) = 0 from rfl, List.drop_zero] at this
       rw [this, Am6]
       rcases hq : JF f2 gives with ⟨f3, x⟩
       by_cases hx0 : x = 0
       ·subst hx0; rfl
       ·dsimp only; rw [Ay hx0]
      by_cases h5' : i.Op.toNat = 5
      ·obtain ⟨h50, h51⟩ := hA (Or.inr h5')
       have hpn := hp.num
       rw [ZP h5'] at hlen ⊢
       rw [A1 (by rw [Az]; exact h5'), A1 h5', show idx (Co f ([254] : List UInt8).length) 0 = some (((Co f ([254] : List UInt8).length)[0]?).getD 0) from Fc (i := 0) (by omega) (by rw [hlen]; simp) 0, Am6, show idx g.Slots.toList i.A = some ((g.Slots.toList[i.A.toNat]?).getD 0) from Fc h50 (by simp; omega) 0, Am6, Am6]
       exact hy (Qn g i.A (((Co f ([254] : List UInt8).length)[0]?).getD 0)) (VF hp _ h50 (by omega))
      ·rw [Ay (by rw [Az]; exact h5'), Ay h5', Am6]
       exact hy g hp
theorem Ade {e : AD} (h : Dg e) {f : A3} (hf : GR e.Classes f) (i : AA) : Kw e f i = some (D9 e f i) := by
 have hb := hf.fb
 unfold Kw
 rw [show (⟨e.Classes, e.AP, e.Fn⟩ : AD) = e from rfl, show (⟨f.Locals, f.Height, f.Slots⟩ : A3) = f from rfl, show (⟨i.At, i.Op, i.A, i.B⟩ : AA) = i from rfl, ZA e h, Am6, Ay (by simp), QC hf, Am6, Ay (by simp), Ha, Am6]
 have e4 : ((i.Op.toNat : Int) == 4) = decide (i.Op.toNat = 4) := BR _ 4
 have e5 : ((i.Op.toNat : Int) == 5) = decide (i.Op.toNat = 5) := BR _ 5
 have ho : (if ((i.Op.toNat : Int) == 4) = true then some true else some ((i.Op.toNat : Int) == 5)) = some (decide (i.Op.toNat = 4 ∨ i.Op.toNat = 5)) := by
  rw [e4, e5]
  by_cases q : i.Op.toNat = 4
  ·rw [A1 (by rw [Az]; exact q), decide_eq_true (Or.inl q)]
  ·rw [Ay (by rw [Az]; exact q)]
   congr 1
   rw [decide_eq_decide]
   exact ⟨Or.inr, fun h => h.resolve_left q⟩
 unfold D9
 by_cases h34 : i.Op.toNat < 34
 ·have hz : C6 i.Op ≠ 0 := by unfold C6; rw [Ay (by omega)]; omega
  rw [Ay (by rw [AG]; omega), ho, Am6, Ay (show ¬ ¬ i.Op.toNat < 34 from fun q => q h34)]
  by_cases hloc : i.Op.toNat = 4 ∨ i.Op.toNat = 5
  ·rw [A1 (by rw [Az]; exact hloc)]
   by_cases hA : 0 ≤ i.A ∧ i.A < f.Locals
   ·rw [Ay (by rw [Az]; omega), Ay (by rw [Az]; omega), Ay (show ¬ ((i.Op.toNat = 4 ∨ i.Op.toNat = 5) ∧ ¬ (0 ≤ i.A ∧ i.A < f.Locals)) from fun q => q.2 hA), Z6 h i, Am6, Xj (e := e) hloc, Ay (by simp), Ay (show ¬ (0 : Int) ≠ 0 from fun q => q rfl), UC h hb i h34 (Xj hloc) (fun _ => hA), Am6]
   ·rw [A1 (show ((i.Op.toNat = 4 ∨ i.Op.toNat = 5) ∧ ¬ (0 ≤ i.A ∧ i.A < f.Locals)) from ⟨hloc, hA⟩)]
    by_cases h1 : i.A < 0
    ·rw [A1 (by rw [Az]; exact h1)]
    ·rw [Ay (by rw [Az]; exact h1), A1 (by rw [Az]; omega)]
  ·rw [Ay (show ¬ ((i.Op.toNat = 4 ∨ i.Op.toNat = 5) ∧ ¬ (0 ≤ i.A ∧ i.A < f.Locals)) from fun q => hloc q.1), Ay (by rw [Az]; exact hloc), Z6 h i, Am6]
   by_cases h0 : CX e i = 0
   ·rw [Ay (show ¬ CX e i ≠ 0 from fun q => q h0), Ay (by rw [AN]; exact fun q => q h0), UC h hb i h34 h0 (fun q => absurd q hloc), Am6]
   ·rw [A1 (show CX e i ≠ 0 from h0), A1 (by rw [AN]; exact h0)]
 ·have hz : C6 i.Op = 0 := by unfold C6; rw [A1 (by omega)]
  rw [A1 (by rw [hz]; rfl), A1 h34]
theorem XG {e : AD} (h : Dg e) {f : A3} (hf : GR e.Classes f) (i : AA) (h0 : CX e i = 0) {had : List UInt8} (hh : ∀ t ∈ had, tv e.Classes t = true) : ∀ t ∈ J2 e f i had, tv e.Classes t = true := by
 have h32 := h.good.few
 have tl : ∀ k, k ≤ 5 → tv e.Classes (UInt8.ofNat k) = true := by
  intro k hk
  unfold tv
  have : (UInt8.ofNat k).toNat = k := by simp; omega
  rw [this, decide_eq_true hk, Bool.true_or]
 have hget : ∀ k : Nat, tv e.Classes ((had[k]?).getD 0) = true := by
  intro k
  rcases hx : had[k]? with _ | x
  ·exact Mi _
  ·exact hh x (Anw hx)
 unfold J2
 split
 ·intro t ht
  rw [Ang] at ht
  subst ht
  unfold KX
  rcases hx : f.Slots.toList[i.A.toNat]? with _ | x
  ·exact Mi _
  ·have := (Ng _ _).2 hf.all
   rw [List.all_eq_true] at this
   exact this x (Anw hx)
 ·split
  ·intro t ht
   have : t = (had[0]?).getD 0 := by simpa using ht
   rw [this]; exact hget 0
  ·split
   ·intro t ht
    have : t = (had[1]?).getD 0 ∨ t = (had[0]?).getD 0 := by simpa using ht
    rcases this with q | q <;> (rw [q]; exact hget _)
   ·rename_i n4 n7 n8
    unfold Ic
    unfold CX at h0
    split
    any_goals (intro t ht; rw [Ang] at ht; subst ht; first | exact tl 1 (by omega) | exact tl 2 (by omega) | exact tl 3 (by omega) | exact tl 4 (by omega))
    any_goals (rename_i q; omega)
    ·rename_i q
     rw [A1 q] at h0
     intro t ht
     unfold J1 at ht
     by_cases ha : 0 ≤ i.A ∧ i.A < e.AP.length
     ·have hm := (SR h (TV ha.1 ha.2)).2.2
      split at ht
      ·cases ht
      ·rename_i q2
       rw [Ang] at ht
       subst ht
       exact (UZ h32 (hm.resolve_left q2)).2.2.2
     ·rw [Ay ha] at h0; cases h0
    ·rename_i q
     rw [Ay (by omega), A1 (by omega)] at h0
     intro t ht
     rw [Ang] at ht
     subst ht
     by_cases ha : 0 ≤ i.A ∧ i.A < e.Classes.length
     ·exact (Ur h32 ha.1 ha.2).2.2
     ·rw [Ay ha] at h0; cases h0
    ·rename_i q
     rw [Ay (by omega), A1 (by omega)] at h0
     intro t ht
     rw [Ang] at ht
     subst ht
     by_cases ha : 0 ≤ i.A ∧ i.A < e.Classes.length
     ·exact (Ur h32 ha.1 ha.2).2.2
     ·rw [Ay ha] at h0; cases h0
    ·rename_i q
     rw [Ay (by omega), Ay (by omega), A1 (by omega)] at h0
     intro t ht
     unfold J1 at ht
     by_cases ha : 0 ≤ i.A ∧ i.A < e.Classes.length ∧ 0 ≤ i.B ∧ i.B < (Cm e.Classes i.A).length
     ·obtain ⟨x, hx1, hx2, hx3⟩ := UQ (e := e) ha.2.2.1 ha.2.2.2
      split at ht
      ·cases ht
      ·rw [Ang] at ht
       subst ht
       rw [hx2]
       exact (UZ h32 (U6 h.good ha.2.1 hx3)).2.2.2
     ·rw [Ay ha] at h0; cases h0
    ·intro t ht; cases ht
theorem Nj {e : AD} (h : Dg e) {f : A3} (hf : GR e.Classes f) (i : AA) (ho : (D9 e f i).2 = 0) : GR e.Classes (D9 e f i).1 ∧ i.Op.toNat < 34 ∧ CX e i = 0 := by
 have hb := hf.fb
 unfold D9 at *
 by_cases h34 : i.Op.toNat < 34
 ·rw [Ay (show ¬ ¬ i.Op.toNat < 34 from fun q => q h34)] at ho ⊢
  by_cases hloc : (i.Op.toNat = 4 ∨ i.Op.toNat = 5) ∧ ¬ (0 ≤ i.A ∧ i.A < f.Locals)
  ·rw [A1 hloc] at ho; cases ho
  ·rw [Ay hloc] at ho ⊢
   by_cases h0 : CX e i = 0
   ·rw [Ay (show ¬ CX e i ≠ 0 from fun q => q h0)] at ho ⊢
    by_cases hH : f.Height < (Bg e i).length
    ·rw [A1 hH] at ho; cases ho
    ·rw [Ay hH] at ho ⊢
     by_cases hk : okV e i (Co f (Bg e i).length) = false
     ·rw [A1 hk] at ho; cases ho
     ·rw [Ay hk] at ho ⊢
      by_cases hl : i.Op.toNat = 4 ∧ (KX f i).toNat = 0
      ·rw [A1 hl] at ho; cases ho
      ·rw [Ay hl] at ho ⊢
       refine ⟨?_, h34, h0⟩
       have hlen := O8 hb (n := (Bg e i).length) (by omega)
       have hall : ∀ t ∈ Co f (Bg e i).length, tv e.Classes t = true := Aet hf.all
       unfold P5 at *
       by_cases h22 : i.Op.toNat = 22 ∧ (Dx f (Co f (Bg e i).length).length).Height > 0
       ·rw [A1 h22] at ho; cases ho
       ·rw [Ay h22] at ho ⊢
        have hp := SG hb (Co f (Bg e i).length).length (by omega)
        have hpa := Aev hf.all (Co f (Bg e i).length).length
        have hpL : (Dx f (Co f (Bg e i).length).length).Locals = f.Locals := by unfold Dx Eb; dsimp only
        by_cases h5 : i.Op.toNat = 5
        ·rw [A1 h5] at ho ⊢
         have hA : 0 ≤ i.A ∧ i.A < f.Locals := Classical.not_not.1 fun q => hloc ⟨Or.inr h5, q⟩
         refine Up _ _ (VF hp _ hA.1 (by omega)) (Af9 hpa ?_ hA.1) (XG h hf i h0 hall) ho
         rcases hx : (Co f (Bg e i).length)[0]? with _ | x
         ·exact Mi _
         ·exact hall x (Anw hx)
        ·rw [Ay h5] at ho ⊢
         exact Up _ _ hp hpa (XG h hf i h0 hall) ho
   ·rw [A1 (show CX e i ≠ 0 from h0)] at ho
    exact absurd ho h0
 ·rw [A1 h34] at ho; cases ho
end Go.Proofs.YtfcpkcehecmcpaaGreat
namespace Go.Proofs.YtfcpkcehecmcpaaGreat
open Go Go.RowKit Go.Pv
theorem KT : ∀ {l m : List Int}, l.Pairwise (· < ·) → m.Pairwise (· < ·) → (∀ a, a ∈ l ↔ a ∈ m) → l = m
 | [], [], _, _, _ => rfl
 | [], b :: m, _, _, h => absurd ((h b).2 (by simp)) (by simp)
 | a :: l, [], _, _, h => absurd ((h a).1 (by simp)) (by simp)
 | a :: l, b :: m, h1, h2, h => by
  rw [An0] at h1 h2
  have hab : a = b := by
   have h3 := (h a).1 (by simp)
   have h4 := (h b).2 (by simp)
   rw [Anh] at h3 h4
   rcases h3 with h3 | h3
   ·exact h3
   ·rcases h4 with h4 | h4
    ·exact h4.symm
    ·have := h2.1 a h3
     have := h1.1 b h4
     omega
  subst hab
  congr 1
  refine KT h1.2 h2.2 fun x => ?_
  constructor
  ·intro hx
   have := (h x).1 (List.mem_cons_of_mem _ hx)
   rw [Anh] at this
   rcases this with q | q
   ·have := h1.1 x hx; omega
   ·exact q
  ·intro hx
   have := (h x).2 (List.mem_cons_of_mem _ hx)
   rw [Anh] at this
   rcases this with q | q
   ·have := h2.1 x hx; omega
   ·exact q
theorem Mc (l : List Int) (a : Int) : a ∈ D5 l ↔ a ∈ l := by unfold D5; exact (List.mergeSort_perm _ _).mem_iff
theorem NB (l : List Int) : (D5 l).length = l.length := by unfold D5; exact (List.mergeSort_perm _ _).length_eq
theorem Rn (l : List Int) : (D5 l).Pairwise (· ≤ ·) := by
 unfold D5
 have := List.pairwise_mergeSort (le := fun x y : Int => decide (x ≤ y)) (fun a b c h1 h2 => by simp at *; omega) (fun a b => by simp; omega) l
 simpa using this
theorem Pb : ∀ {l : List Int}, l.Pairwise (· ≤ ·) → l.Nodup → l.Pairwise (· < ·)
 | [], _, _ => List.Pairwise.nil
 | a :: l, h, hn => by
  rw [An0] at h ⊢
  rw [List.nodup_cons] at hn
  refine ⟨fun b hb => ?_, Pb h.2 hn.2⟩
  have h1 := h.1 b hb
  have h2 : a ≠ b := by rintro rfl; exact hn.1 hb
  omega
theorem Lt {l : List Int} (h : l.Nodup) : (D5 l).Pairwise (· < ·) :=
 Pb (Rn l) (by unfold D5; exact (List.mergeSort_perm _ _).nodup_iff.2 h)
theorem Sq (l : List Int) (hs : l.Pairwise (· ≤ ·)) : ∀ m, m ≤ l.length → (Lib.compactUpTo l.toArray m).Pairwise (· < ·) ∧ ∀ a, a ∈ Lib.compactUpTo l.toArray m ↔ a ∈ l.take m
 | 0, _ => by simp [Lib.compactUpTo]
 | m + 1, hm => by
  obtain ⟨h1, h2⟩ := Sq l hs m (by omega)
  have hm' : m < l.length := by omega
  have hget : l.toArray[m]! = l[m] := by simp [getElem!_pos, hm']
  rw [Lib.compactUpTo_succ, hget]
  have hle : ∀ i j (hi : i < l.length) (hj : j < l.length), i ≤ j → l[i] ≤ l[j] := by
   intro i j hi hj hij
   rcases Nat.lt_or_ge i j with q | q
   ·exact List.pairwise_iff_getElem.1 hs i j hi hj q
   ·have : i = j := by omega
    subst this
    exact Int.le_refl _
  have hmem : ∀ x, x ∈ l.take (m + 1) ↔ x ∈ l.take m ∨ x = l[m] := by
   intro x
   rw [List.take_succ_eq_append_getElem hm', Anf, Ang]
  by_cases hk : Lib.keeps l.toArray m = true
  ·rw [A1 hk]
   refine ⟨?_, fun a => ?_⟩
   ·rw [Anv]
    refine ⟨h1, List.pairwise_singleton _ _, fun a ha b hb => ?_⟩
    rw [Ang] at hb
    subst hb
    have ha' := (h2 a).1 ha
    obtain ⟨i, hi, rfl⟩ := List.mem_iff_getElem.1 ha'
    rw [Ane] at hi
    rw [An2]
    unfold Lib.keeps at hk
    rw [Az] at hk
    have hm0 : m ≠ 0 := by omega
    have hne := hk.resolve_left hm0
    have hget1 : l.toArray[m - 1]! = l[m - 1] := by simp [getElem!_pos, show m - 1 < l.length by omega]
    rw [hget, hget1] at hne
    have q1 := hle i (m - 1) (by omega) (by omega) (by omega)
    have q2 := hle (m - 1) m (by omega) hm' (by omega)
    omega
   ·rw [Anf, Ang, h2, hmem]
  ·rw [Ay hk]
   rw [Anq]
   refine ⟨h1, fun a => ?_⟩
   rw [h2, hmem]
   constructor
   ·exact Or.inl
   ·rintro (q | q)
    ·exact q
    ·unfold Lib.keeps at hk
     rw [Az, not_or, Classical.not_not] at hk
     obtain ⟨hm0, heq⟩ := hk
     have hget1 : l.toArray[m - 1]! = l[m - 1] := by simp [getElem!_pos, show m - 1 < l.length by omega]
     rw [hget, hget1] at heq
     rw [q, heq]
     rw [List.mem_iff_getElem]
     exact ⟨m - 1, by rw [Ane]; omega, by rw [An2]⟩
theorem PI (l : List Int) (h : l.length ≤ 1099511627776) : ∃ r, (Ol l).bind LU = some r ∧ r.Pairwise (· < ·) ∧ ∀ a, a ∈ r ↔ a ∈ l := by
 refine ⟨Lib.compact (D5 l), ?_, ?_⟩
 ·unfold Ol
  rw [A1 (by omega), Am6]
  unfold LU
  rw [A1 (by rw [NB]; omega)]
 ·obtain ⟨h1, h2⟩ := Sq (D5 l) (Rn l) (D5 l).length (Nat.le_refl _)
  refine ⟨h1, fun a => ?_⟩
  have := h2 a
  rw [An3, Mc] at this
  exact this
theorem JA {κ ν : Type} [DecidableEq κ] (k k' : κ) (v : ν) : ∀ l : List (κ × ν), BJ (C7 l k v) k' = if k' = k then some v else BJ l k'
 | [] => by
  unfold C7 BJ
  split <;> simp_all [BJ]
 | p :: r => by
  have ih := JA k k' v r
  unfold C7
  by_cases h : k = p.1
  ·rw [A1 h]
   unfold BJ
   dsimp only
   rw [← h]
   by_cases h' : k' = k
   ·rw [A1 h', A1 h']
   ·rw [Ay h', Ay h', Ay h']
  ·rw [Ay h]
   unfold BJ
   rw [ih]
   by_cases h' : k' = p.1
   ·rw [A1 h', Ay (by intro q; exact h (q ▸ h')), A1 h']
   ·rw [Ay h', Ay h']
theorem IW {κ ν : Type} [DecidableEq κ] (k : κ) : ∀ l : List (κ × ν), (BJ l k).isSome = true ↔ k ∈ l.map Prod.fst
 | [] => by simp [BJ]
 | p :: r => by
  have ih := IW k r
  unfold BJ
  rw [List.map_cons, Anh]
  by_cases h : k = p.1
  ·rw [A1 h]; simp [h]
  ·rw [Ay h, ih]; simp [h]
theorem Wh {κ ν : Type} [DecidableEq κ] (k : κ) : ∀ l : List (κ × ν), ((H8 l k).map Prod.fst) = (l.map Prod.fst).erase k
 | [] => rfl
 | p :: r => by
  have ih := Wh k r
  unfold H8
  by_cases h : k = p.1
  ·rw [A1 h, List.map_cons, ← h, List.erase_cons_head]
  ·rw [Ay h, List.map_cons, List.map_cons, List.erase_cons_tail (by simp; exact fun q => h q.symm), ih]
theorem Abm {κ ν : Type} [DecidableEq κ] {l : List (κ × ν)} (h : (l.map Prod.fst).Nodup) (k : κ) : ((H8 l k).map Prod.fst).Nodup := by rw [Wh]; exact h.erase k
theorem WI {κ ν : Type} [DecidableEq κ] (k k' : κ) : ∀ l : List (κ × ν), (l.map Prod.fst).Nodup → BJ (H8 l k) k' = if k' = k then none else BJ l k'
 | [], _ => by unfold H8 BJ; split <;> rfl
 | p :: r, h => by
  rw [List.map_cons, List.nodup_cons] at h
  have ih := WI k k' r h.2
  unfold H8
  by_cases hk : k = p.1
  ·rw [A1 hk]
   by_cases h' : k' = k
   ·rw [A1 h']
    rcases hx : BJ r k' with _ | v
    ·rfl
    ·have := (IW k' r).1 (by rw [hx]; rfl)
     rw [h', hk] at this
     exact absurd this h.1
   ·rw [Ay h']
    conv => rhs; unfold BJ
    rw [Ay (by rw [← hk]; exact h')]
  ·rw [Ay hk]
   unfold BJ
   rw [ih]
   by_cases h' : k' = p.1
   ·rw [A1 h', Ay (by rintro rfl; exact hk h'), A1 h']
   ·rw [Ay h', Ay h']
theorem Afi {κ ν : Type} [DecidableEq κ] (l : List (κ × ν)) (k : κ) (v : ν) : (C7 l k v).length ≤ l.length + 1 := by
 induction l with
 | nil => simp [C7]
 | cons p r ih =>
  unfold C7
  split
  ·simp
  ·simp; omega
theorem Aci (l : List (Int × Unit)) (n : Int) : ∃ r, NH EE l n = some (.inl r) ∧ (r = n ∨ r ∈ l.map Prod.fst) ∧ r ≤ n ∧ ∀ k ∈ l.map Prod.fst, r ≤ k := by
 have key : ∀ (l : List (Int × Unit)) (n : Int), ∃ r, Lk EE l n = some (.inl r) ∧ (r = n ∨ r ∈ l.map Prod.fst) ∧ r ≤ n ∧ ∀ k ∈ l.map Prod.fst, r ≤ k := by
  intro l
  induction l with
  | nil => intro n; exact ⟨n, rfl, Or.inl rfl, Int.le_refl _, fun k hk => by cases hk⟩
  | cons p l ih =>
   intro n
   unfold Lk EE
   dsimp only
   obtain ⟨r, h1, h2, h3, h4⟩ := ih (if p.1 < n then p.1 else n)
   refine ⟨r, h1, ?_, ?_, ?_⟩
   ·rcases h2 with q | q
    ·rw [List.map_cons, Anh]
     by_cases hp : p.1 < n
     ·rw [A1 hp] at q; exact Or.inr (Or.inl q)
     ·rw [Ay hp] at q; exact Or.inl q
    ·exact Or.inr (by rw [List.map_cons, Anh]; exact Or.inr q)
   ·by_cases hp : p.1 < n
    ·rw [A1 hp] at h3; omega
    ·rw [Ay hp] at h3; omega
   ·intro k hk
    rw [List.map_cons, Anh] at hk
    rcases hk with q | q
    ·subst q
     by_cases hp : p.1 < n
     ·rw [A1 hp] at h3; omega
     ·rw [Ay hp] at h3; omega
    ·exact h4 k q
 obtain ⟨r, h1, h2, h3, h4⟩ := key l n
 refine ⟨r, Qj.2 fun l' hp => ?_, h2, h3, h4⟩
 obtain ⟨r', g1, g2, g3, g4⟩ := key l' n
 have hm : ∀ k, k ∈ l'.map Prod.fst ↔ k ∈ l.map Prod.fst := fun k => (hp.map _).mem_iff
 have : r' = r := by
  have a1 : r ≤ r' := by
   rcases g2 with q | q
   ·omega
   ·exact h4 _ ((hm _).1 q)
  have a2 : r' ≤ r := by
   rcases h2 with q | q
   ·omega
   ·exact g4 _ ((hm _).2 q)
  omega
 rw [g1, this]
end Go.Proofs.YtfcpkcehecmcpaaGreat
namespace Go.Proofs.YtfcpkcehecmcpaaGreat
open Go Go.RowKit Go.Pv
def upd {α : Type} (f : Nat → α) (a : Nat) (x : α) : Nat → α := fun b => if b = a then x else f b
theorem DX {α : Type} (f : Nat → α) (a : Nat) (x : α) : upd f a x a = x := A1 rfl
theorem upd_ne {α : Type} (f : Nat → α) {a b : Nat} (x : α) (h : b ≠ a) : upd f a x b = f b := Ay h
structure St where
 fr : Nat → Option A3
 new : Nat → Bool
 tk : Nat → Nat
def FV (op : UInt8) : Bool := decide (op.toNat = 19) || decide (op.toNat = 20)
def HF (op : UInt8) : Bool := decide (op.toNat = 19) || (decide (op.toNat = 22) || decide (op.toNat = 32))
def Bj (code : List UInt8) (a : Nat) : AA × Int := match code[a]? with
 | none => (⟨0, 0, 0, 0⟩, 51)
 | some op => dec code a op
def CL (i : AA) : List Nat :=
 (if FV i.Op = true ∧ (HF i.Op = true ∨ i.A < i.At + C6 i.Op) then [i.A.toNat] else []) ++ (if HF i.Op = true then [] else [(i.At + C6 i.Op).toNat]) ++ (if FV i.Op = true ∧ HF i.Op = false ∧ i.A > i.At + C6 i.Op then [i.A.toNat] else [])
def Li (i : AA) (n : Nat) : List Nat × Int :=
 if FV i.Op = true ∧ i.A ≥ n then ([], 50) else if HF i.Op = false ∧ i.At + C6 i.Op = n then ([], 51) else (CL i, 0)
open Classical in
noncomputable def Ev (l : List A9) (s : St) (a : Nat) (f : A3) : St × Int := match s.fr a with
 | none => (⟨upd s.fr a (some f), upd s.new a true, s.tk⟩, 0)
 | some g => if (DU l g f).2 ≠ 0 then (s, (DU l g f).2) else if (DU l g f).1 = g then (s, 0) else (⟨upd s.fr a (some (DU l g f).1), upd s.new a true, s.tk⟩, 0)
noncomputable def DY (l : List A9) (f : A3) : St → List Nat → Int × Int × St
 | s, [] => (0, 0, s)
 | s, a :: r => if (Ev l s a f).2 ≠ 0 then (a, (Ev l s a f).2, (Ev l s a f).1) else DY l f (Ev l s a f).1 r
def I2 (s : St) (n a size : Nat) : Bool := (List.range (n + 1)).any fun x => decide (0 < s.tk x ∧ x ≠ a ∧ a < x + s.tk x ∧ x < a + size)
def off (s : St) (a : Nat) : St := ⟨s.fr, upd s.new a false, s.tk⟩
def lay (s : St) (a k : Nat) : St := ⟨s.fr, s.new, upd s.tk a k⟩
noncomputable def CJ (e : AD) (code : List UInt8) (s : St) (a : Nat) : Int × Int × St :=
 if (Bj code a).2 ≠ 0 then (a, (Bj code a).2, off s a)
 else if I2 (off s a) code.length a (C6 (Bj code a).1.Op) = true then (a, 80, off s a)
 else if (D9 e ((s.fr a).getD zf) (Bj code a).1).2 ≠ 0 then (a, (D9 e ((s.fr a).getD zf) (Bj code a).1).2, lay (off s a) a (C6 (Bj code a).1.Op))
 else if (Li (Bj code a).1 code.length).2 ≠ 0 then (a, (Li (Bj code a).1 code.length).2, lay (off s a) a (C6 (Bj code a).1.Op))
 else DY e.Classes (D9 e ((s.fr a).getD zf) (Bj code a).1).1 (lay (off s a) a (C6 (Bj code a).1.Op)) (Li (Bj code a).1 code.length).1
def Hy (s : St) (n : Nat) : Option Nat := (List.range (n + 1)).find? s.new
noncomputable def Ln (e : AD) (code : List UInt8) : Nat → St → Option (Int × Int × St)
 | 0, _ => none
 | k + 1, s => match Hy s code.length with
  | none => some (0, 0, s)
  | some a => if (CJ e code s a).2.1 ≠ 0 then some (CJ e code s a) else Ln e code k (CJ e code s a).2.2
structure LC (l : List A9) (f g : A3) : Prop where
 loc : f.Locals = g.Locals
 hgt : f.Height = g.Height
 le : ∀ j (h : j < 24), Le l f.Slots[j] g.Slots[j]
theorem LC.refl {l : List A9} {f : A3} (h : GR l f) : LC l f f := ⟨rfl, rfl, fun j hj => Le.refl (h.all j hj)⟩
theorem Le.trans {l : List A9} (G : Good l) {a b c : UInt8} (h : Le l a b) (h' : Le l b c) : Le l a c := by
 have ha := h.1
 have hb := h.2.1
 have hc := h'.2.1
 rw [le_iff hb hc] at h'
 rw [le_iff ha hb] at h
 rw [le_iff ha hc]
 rcases h with rfl | h | h | h | h
 ·exact h'
 ·rcases h' with rfl | h' | h' | h' | h'
  ·exact Or.inr (Or.inl h)
  ·exact Or.inr (Or.inl h')
  ·omega
  ·exact absurd h'.1 (by unfold rf; simp [h])
  ·omega
 ·rcases h' with rfl | h' | h' | h' | h'
  ·exact Or.inr (Or.inr (Or.inl h))
  ·exact Or.inr (Or.inl h')
  ·exact Or.inr (Or.inr (Or.inl ⟨h.1, h'.2⟩))
  ·exact Or.inr (Or.inr (Or.inl ⟨h.1, by unfold rf; simp [h'.2]⟩))
  ·exact Or.inr (Or.inr (Or.inl ⟨h.1, by rw [Kq]; omega⟩))
 ·rcases h' with rfl | h' | h' | h' | h'
  ·exact Or.inr (Or.inr (Or.inr (Or.inl h)))
  ·exact Or.inr (Or.inl h')
  ·omega
  ·exact Or.inr (Or.inr (Or.inr (Or.inl ⟨h.1, h'.2⟩)))
  ·omega
 ·rcases h' with rfl | h' | h' | h' | h'
  ·exact Or.inr (Or.inr (Or.inr (Or.inr h)))
  ·exact Or.inr (Or.inl h')
  ·omega
  ·exact Or.inr (Or.inr (Or.inr (Or.inl ⟨by rw [Kq]; omega, h'.2⟩)))
  ·refine Or.inr (Or.inr (Or.inr (Or.inr ⟨h.1, h'.2.1, ?_⟩)))
   have hx := (LA ha h.1).2
   exact Y4 G.right (a.toNat - 16 + 1) ((a.toNat - 16 : Nat) : Int) (by omega) (by omega) (by omega) _ h.2.2 _ h'.2.2
theorem LC.trans {l : List A9} (G : Good l) {f g h : A3} (h1 : LC l f g) (h2 : LC l g h) : LC l f h := ⟨h1.loc.trans h2.loc, h1.hgt.trans h2.hgt, fun j hj => (h1.le j hj).trans G (h2.le j hj)⟩
theorem Abi {l : List A9} (G : Good l) {f g : A3} (hf : GR l f) (hg : GR l g) (h : (DU l f g).2 = 0) : GR l (DU l f g).1 ∧ LC l f (DU l f g).1 ∧ LC l g (DU l f g).1 := by
 unfold DU at *
 by_cases h1 : f.Locals = g.Locals ∧ f.Height = g.Height
 ·rw [A1 h1]
  have hl := fun j (hj : j < 24) => Wj l G (hf.all j hj) (hg.all j hj)
  have key : ∀ j (hj : j < 24), Le l f.Slots[j] (PX l f g (f.Locals + f.Height).toNat)[j] ∧ Le l g.Slots[j] (PX l f g (f.Locals + f.Height).toNat)[j] := by
   intro j hj
   rw [KN _ _ _ _ _ hj]
   split
   ·exact ⟨(hl j hj).left, (hl j hj).right⟩
   ·rename_i q
    have e1 := hf.bare j hj (by omega)
    have e2 := hg.bare j hj (by rw [← h1.1, ← h1.2]; omega)
    rw [e1, e2]
    exact ⟨Le.refl (Mi l), Le.refl (Mi l)⟩
  refine ⟨⟨hf.shp, fun j hj hle => ?_, fun j hj => (key j hj).1.2.1⟩, ⟨rfl, rfl, fun j hj => (key j hj).1⟩, ⟨h1.1.symm, h1.2.symm, fun j hj => (key j hj).2⟩⟩
  dsimp only at *
  rw [KN _ _ _ _ _ hj, Ay (by omega)]
  exact hf.bare j hj hle
 ·rw [Ay h1] at h; cases h
def rk (l : List A9) (t : UInt8) : Nat := ((List.range 256).filter fun u => decide (Le l t (UInt8.ofNat u))).length
theorem filter_le {α : Type} {p q : α → Bool} : ∀ {L : List α}, (∀ x ∈ L, p x = true → q x = true) → (L.filter p).length ≤ (L.filter q).length
 | [], _ => by simp
 | b :: L, h => by
  have ih := filter_le (p := p) (q := q) (L := L) (fun x hx => h x (by simp [hx]))
  have hb := h b (by simp)
  rcases hp : p b with _ | _
  ·rcases hq : q b with _ | _
   ·simp only [Ano, hp, hq, if_true, Bool.false_eq_true, if_false, Ans]; omega
   ·simp only [Ano, hp, hq, if_true, Bool.false_eq_true, if_false, Ans]; omega
  ·simp only [Ano, hp, hb hp, if_true, Bool.false_eq_true, if_false, Ans]; omega
theorem filter_lt {α : Type} {p q : α → Bool} : ∀ {L : List α}, (∀ x ∈ L, p x = true → q x = true) → (∃ x ∈ L, q x = true ∧ p x = false) → (L.filter p).length < (L.filter q).length
 | [], _, h => by obtain ⟨x, hx, _⟩ := h; cases hx
 | a :: L, h, hx => by
  have hle := filter_le (p := p) (q := q) (L := L) (fun x hx => h x (by simp [hx]))
  obtain ⟨x, hx, hq, hp⟩ := hx
  rw [Anh] at hx
  rcases hx with rfl | hx
  ·simp only [Ano, hp, hq, if_true, Bool.false_eq_true, if_false, Ans]; omega
  ·have ih := filter_lt (p := p) (q := q) (L := L) (fun x hx => h x (by simp [hx])) ⟨x, hx, hq, hp⟩
   have ha := h a (by simp)
   rcases hpa : p a with _ | _
   ·rcases hqa : q a with _ | _
    ·simp only [Ano, hpa, hqa, if_true, Bool.false_eq_true, if_false, Ans]; omega
    ·simp only [Ano, hpa, hqa, if_true, Bool.false_eq_true, if_false, Ans]; omega
   ·simp only [Ano, hpa, ha hpa, if_true, Bool.false_eq_true, if_false, Ans]; omega
theorem Aks (l : List A9) (t : UInt8) : rk l t ≤ 256 := by
 unfold rk
 refine Nat.le_trans (Anx _ _) ?_
 rw [Anz]
 exact Nat.le_refl _
theorem Ahp {l : List A9} (G : Good l) {a b : UInt8} (h : Le l a b) : rk l b ≤ rk l a := by
 unfold rk
 refine filter_le fun x _ hx => ?_
 rw [Az] at *
 exact h.trans G hx
theorem Ak4 {l : List A9} (G : Good l) {a b : UInt8} (h : Le l a b) (hne : a ≠ b) : rk l b < rk l a := by
 unfold rk
 refine filter_lt (fun x _ hx => ?_) ⟨a.toNat, ?_, ?_, ?_⟩
 ·rw [Az] at *
  exact h.trans G hx
 ·rw [Anj]; exact a.toNat_lt
 ·rw [Az, UInt8.ofNat_toNat]
  exact Le.refl h.1
 ·rw [decide_eq_false_iff_not, UInt8.ofNat_toNat]
  exact fun q => hne (h.antisymm G q)
def FU (n : Nat) (F : Nat → Nat) : Nat := match n with
 | 0 => 0
 | n + 1 => FU n F + F n
theorem Vz {F G : Nat → Nat} : ∀ {n : Nat}, (∀ i, i < n → F i ≤ G i) → FU n F ≤ FU n G
 | 0, _ => Nat.le_refl _
 | n + 1, h => by
  have := Vz (F := F) (G := G) (n := n) fun i hi => h i (by omega)
  have := h n (by omega)
  simp only [FU]
  omega
theorem VI {F G : Nat → Nat} : ∀ {n : Nat}, (∀ i, i < n → F i ≤ G i) → (∃ i, i < n ∧ F i < G i) → FU n F < FU n G
 | 0, _, h => by obtain ⟨i, hi, _⟩ := h; omega
 | n + 1, h, hx => by
  obtain ⟨i, hi, hl⟩ := hx
  simp only [FU]
  by_cases hin : i = n
  ·subst hin
   have := Vz (F := F) (G := G) (n := i) fun j hj => h j (by omega)
   omega
  ·have := VI (F := F) (G := G) (n := n) (fun j hj => h j (by omega)) ⟨i, by omega, hl⟩
   have := h n (by omega)
   omega
theorem Qm {F : Nat → Nat} {k : Nat} : ∀ {n : Nat}, (∀ i, i < n → F i ≤ k) → FU n F ≤ n * k
 | 0, _ => by simp [FU]
 | n + 1, h => by
  have := Qm (F := F) (k := k) (n := n) fun i hi => h i (by omega)
  have := h n (by omega)
  simp only [FU]
  rw [Nat.succ_mul]
  omega
def rkF (l : List A9) (f : A3) : Nat := FU 24 fun j => rk l ((f.Slots.toList[j]?).getD 0)
theorem Qv (f : A3) {j : Nat} (h : j < 24) : (f.Slots.toList[j]?).getD 0 = f.Slots[j] := by
 rw [Am8 (by simpa using h), Am7, Vector.getElem_toList]
theorem Ajk (l : List A9) (f : A3) : rkF l f ≤ 6144 := Qm (k := 256) (n := 24) fun j _ => Aks l _
theorem Ajn {l : List A9} (G : Good l) {f g : A3} (h : LC l f g) (hne : g ≠ f) : rkF l g < rkF l f := by
 refine VI (fun j hj => ?_) ?_
 ·rw [Qv f hj, Qv g hj]
  exact Ahp G (h.le j hj)
 ·have hs : ¬ ∀ j (hj : j < 24), f.Slots[j] = g.Slots[j] := by
   intro q
   apply hne
   obtain ⟨L, H, S⟩ := f
   obtain ⟨L', H', S'⟩ := g
   have e1 := h.loc
   have e2 := h.hgt
   have e3 : S = S' := Vector.ext fun j hj => q j hj
   dsimp only at e1 e2
   rw [e1, e2, e3]
  have hs : ∃ j, ∃ hj : j < 24, f.Slots[j] ≠ g.Slots[j] := by
   refine Classical.byContradiction fun q => hs fun j hj => ?_
   exact Classical.byContradiction fun q2 => q ⟨j, hj, q2⟩
  obtain ⟨j, hj, hne'⟩ := hs
  refine ⟨j, hj, ?_⟩
  rw [Qv f hj, Qv g hj]
  exact Ak4 G (h.le j hj) hne'
def Abr : Bool → Nat
 | true => 1
 | false => 0
def frN (l : List A9) : Option A3 → Nat
 | none => 6145
 | some f => rkF l f
def nu (l : List A9) (s : St) (a : Nat) : Nat := 2 * frN l (s.fr a) + Abr (s.new a)
def mu (l : List A9) (n : Nat) (s : St) : Nat := FU (n + 1) (nu l s)
end Go.Proofs.YtfcpkcehecmcpaaGreat
namespace Go.Proofs.YtfcpkcehecmcpaaGreat
open Go Go.RowKit Go.Pv
theorem IB {code : List UInt8} {a : Nat} (h : (Bj code a).2 = 0) : a < code.length ∧ (Bj code a).1.At = a ∧ 0 < C6 (Bj code a).1.Op ∧ a + C6 (Bj code a).1.Op ≤ code.length ∧ code[a]? = some (Bj code a).1.Op := by
 unfold Bj at *
 rcases hc : code[a]? with _ | op
 ·rw [hc] at h; cases h
 ·rw [hc] at h
  have ha : a < code.length := (List.getElem?_eq_some_iff.1 hc).1
  dsimp only at *
  unfold dec at *
  by_cases h0 : C6 op = 0
  ·rw [A1 h0] at h; cases h
  ·rw [Ay h0] at h ⊢
   by_cases h1 : code.length < a + C6 op
   ·rw [A1 h1] at h; cases h
   ·rw [Ay h1] at h ⊢
    dsimp only at *
    split at h
    ·cases h
    ·rename_i q
     rw [Ay q]
     dsimp only
     exact ⟨ha, rfl, by omega, by omega, rfl⟩
theorem UX {i : AA} {n a : Nat} (hA : i.At = a) (hs : a + C6 i.Op ≤ n) (hn : 0 < n) (h : (Li i n).2 = 0) : (Li i n).1 = CL i ∧ ∀ t ∈ CL i, t < n := by
 unfold Li at *
 by_cases h1 : FV i.Op = true ∧ i.A ≥ n
 ·rw [A1 h1] at h; cases h
 ·rw [Ay h1] at h ⊢
  by_cases h2 : HF i.Op = false ∧ i.At + C6 i.Op = n
  ·rw [A1 h2] at h; cases h
  ·rw [Ay h2]
   refine ⟨rfl, fun t ht => ?_⟩
   unfold CL at ht
   rw [Anf, Anf] at ht
   rcases ht with (ht | ht) | ht
   ·split at ht
    ·rename_i q
     rw [Ang] at ht
     subst ht
     have : ¬ i.A ≥ n := fun q2 => h1 ⟨q.1, q2⟩
     omega
    ·cases ht
   ·split at ht
    ·cases ht
    ·rename_i q
     rw [Ang] at ht
     subst ht
     have : ¬ i.At + C6 i.Op = n := fun q2 => h2 ⟨by simpa using q, q2⟩
     omega
   ·split at ht
    ·rename_i q
     rw [Ang] at ht
     subst ht
     have : ¬ i.A ≥ n := fun q2 => h1 ⟨q.1, q2⟩
     omega
    ·cases ht
structure Ajz (e : AD) (code : List UInt8) (s : St) (a : Nat) (f : A3) : Prop where
 ins : (Bj code a).2 = 0
 app : (D9 e f (Bj code a).1).2 = 0
 on : (Li (Bj code a).1 code.length).2 = 0
 tk : s.tk a = C6 (Bj code a).1.Op
 nx : ∀ t ∈ CL (Bj code a).1, ∃ h, s.fr t = some h ∧ LC e.Classes (D9 e f (Bj code a).1).1 h
structure MF (e : AD) (code : List UInt8) (st0 : A3) (s : St) : Prop where
 fok : ∀ a f, s.fr a = some f → GR e.Classes f
 dom : ∀ a, (s.fr a).isSome = true → a < code.length ∨ a = 0
 new : ∀ a, s.new a = true → (s.fr a).isSome = true
 tk : ∀ x, 0 < s.tk x → (s.fr x).isSome = true ∧ (Bj code x).2 = 0 ∧ s.tk x = C6 (Bj code x).1.Op
 dis : ∀ x y, 0 < s.tk x → 0 < s.tk y → x < y → x + s.tk x ≤ y
 start : ∃ f, s.fr 0 = some f ∧ LC e.Classes st0 f
structure Inv (e : AD) (code : List UInt8) (st0 : A3) (s : St) : Prop extends MF e code st0 s where
 clo : ∀ a f, s.fr a = some f → s.new a = false → Ajz e code s a f
structure Ext (l : List A9) (s s' : St) : Prop where
 fr : ∀ b f, s.fr b = some f → ∃ f', s'.fr b = some f' ∧ LC l f f'
 tk : s'.tk = s.tk
 same : ∀ b, s'.new b = false → s'.fr b = s.fr b ∧ s.new b = false
theorem Ext.trans {l : List A9} (G : Good l) {s t u : St} (h : Ext l s t) (h' : Ext l t u) : Ext l s u := by
 refine ⟨fun b f hf => ?_, h'.tk.trans h.tk, fun b hb => ?_⟩
 ·obtain ⟨f1, h1, h2⟩ := h.fr b f hf
  obtain ⟨f2, h3, h4⟩ := h'.fr b f1 h1
  exact ⟨f2, h3, h2.trans G h4⟩
 ·obtain ⟨h1, h2⟩ := h'.same b hb
  obtain ⟨h3, h4⟩ := h.same b h2
  exact ⟨h1.trans h3, h4⟩
theorem Mo {α : Type} {o : Option α} (h : o.isSome = true) : ∃ x, o = some x := by
 rcases o with _ | x
 ·cases h
 ·exact ⟨x, rfl⟩
theorem V2 {e : AD} (h : Dg e) {code : List UInt8} {st0 : A3} {s : St} (I : MF e code st0 s) {t : Nat} (ht : t < code.length) {g : A3} (hg : GR e.Classes g) (h0 : (Ev e.Classes s t g).2 = 0) :
  MF e code st0 (Ev e.Classes s t g).1 ∧ Ext e.Classes s (Ev e.Classes s t g).1 ∧ mu e.Classes code.length (Ev e.Classes s t g).1 ≤ mu e.Classes code.length s ∧ ∃ f, (Ev e.Classes s t g).1.fr t = some f ∧ LC e.Classes g f := by
 have G := h.good
 have base : ∀ f' : A3, GR e.Classes f' → (∀ f, s.fr t = some f → LC e.Classes f f') → nu e.Classes ⟨upd s.fr t (some f'), upd s.new t true, s.tk⟩ t ≤ nu e.Classes s t →
   MF e code st0 ⟨upd s.fr t (some f'), upd s.new t true, s.tk⟩ ∧ Ext e.Classes s ⟨upd s.fr t (some f'), upd s.new t true, s.tk⟩ ∧ mu e.Classes code.length ⟨upd s.fr t (some f'), upd s.new t true, s.tk⟩ ≤ mu e.Classes code.length s := by
  intro f' hf' hle hnu
  have hfr : ∀ b f, s.fr b = some f → ∃ f2, upd s.fr t (some f') b = some f2 ∧ LC e.Classes f f2 := by
   intro b f hf
   by_cases hb : b = t
   ·subst hb
    exact ⟨f', DX _ _ _, hle f hf⟩
   ·exact ⟨f, by rw [upd_ne _ _ hb]; exact hf, LC.refl (I.fok b f hf)⟩
  have hsome : ∀ b, (s.fr b).isSome = true → (upd s.fr t (some f') b).isSome = true := by
   intro b hb
   obtain ⟨f, hf⟩ := Mo hb
   obtain ⟨f2, hf2, _⟩ := hfr b f hf
   rw [hf2]; rfl
  refine ⟨⟨fun b f hf => ?_, fun b hb => ?_, fun b hb => ?_, fun x hx => ?_, I.dis, ?_⟩, ⟨hfr, rfl, fun b hb => ?_⟩, ?_⟩
  ·by_cases hb : b = t
   ·subst hb
    dsimp only at hf
    rw [DX] at hf
    cases hf
    exact hf'
   ·dsimp only at hf
    rw [upd_ne _ _ hb] at hf
    exact I.fok b f hf
  ·by_cases hbt : b = t
   ·subst hbt; exact Or.inl ht
   ·dsimp only at hb
    rw [upd_ne _ _ hbt] at hb
    exact I.dom b hb
  ·by_cases hbt : b = t
   ·subst hbt
    dsimp only
    rw [DX]; rfl
   ·dsimp only at hb
    rw [upd_ne _ _ hbt] at hb
    exact hsome b (I.new b hb)
  ·obtain ⟨h1, h2, h3⟩ := I.tk x hx
   exact ⟨hsome x h1, h2, h3⟩
  ·obtain ⟨f, hf, hfl⟩ := I.start
   obtain ⟨f2, hf2, hfl2⟩ := hfr 0 f hf
   exact ⟨f2, hf2, hfl.trans G hfl2⟩
  ·by_cases hbt : b = t
   ·subst hbt
    dsimp only at hb
    rw [DX] at hb; cases hb
   ·dsimp only at hb ⊢
    rw [upd_ne _ _ hbt] at hb
    exact ⟨upd_ne _ _ hbt, hb⟩
  ·refine Vz fun b _ => ?_
   by_cases hbt : b = t
   ·subst hbt; exact hnu
   ·unfold nu
    dsimp only
    rw [upd_ne _ _ hbt, upd_ne _ _ hbt]
    exact Nat.le_refl _
 have hnu1 : ∀ f', nu e.Classes ⟨upd s.fr t (some f'), upd s.new t true, s.tk⟩ t = 2 * rkF e.Classes f' + 1 := by
  intro f'
  unfold nu
  dsimp only
  rw [DX, DX]
  unfold frN Abr
  rfl
 unfold Ev at *
 rcases hf : s.fr t with _ | f
 ·rw [hf] at h0
  dsimp only at *
  have hn : nu e.Classes s t ≥ 12290 := by unfold nu; rw [hf]; unfold frN; dsimp only; omega
  have hr := Ajk e.Classes g
  obtain ⟨b1, b2, b3⟩ := base g hg (fun f q => by rw [hf] at q; cases q) (by rw [hnu1]; omega)
  exact ⟨b1, b2, b3, g, DX _ _ _, LC.refl hg⟩
 ·rw [hf] at h0
  dsimp only at *
  by_cases hm : (DU e.Classes f g).2 ≠ 0
  ·rw [A1 hm] at h0; exact absurd h0 hm
  ·rw [Ay hm] at h0 ⊢
   have hm0 : (DU e.Classes f g).2 = 0 := Classical.not_not.1 hm
   obtain ⟨m1, m2, m3⟩ := Abi G (I.fok t f hf) hg hm0
   by_cases hq : (DU e.Classes f g).1 = f
   ·rw [A1 hq]
    exact ⟨I, ⟨fun b f2 hf2 => ⟨f2, hf2, LC.refl (I.fok b f2 hf2)⟩, rfl, fun b hb => ⟨rfl, hb⟩⟩, Nat.le_refl _, f, hf, by rw [← hq]; rw [hq] at m3 ⊢; exact m3⟩
   ·rw [Ay hq]
    have hr := Ajn G m2 hq
    obtain ⟨b1, b2, b3⟩ := base _ m1 (fun f2 q => by rw [hf] at q; cases q; exact m2) (by
     rw [hnu1]
     unfold nu
     rw [hf]
     unfold frN
     dsimp only
     omega)
    exact ⟨b1, b2, b3, _, DX _ _ _, m3⟩
theorem XW {e : AD} (h : Dg e) {code : List UInt8} {st0 : A3} {g : A3} (hg : GR e.Classes g) : ∀ (ts : List Nat) (s : St), MF e code st0 s → (∀ t ∈ ts, t < code.length) → (DY e.Classes g s ts).2.1 = 0 →
  MF e code st0 (DY e.Classes g s ts).2.2 ∧ Ext e.Classes s (DY e.Classes g s ts).2.2 ∧ mu e.Classes code.length (DY e.Classes g s ts).2.2 ≤ mu e.Classes code.length s ∧ ∀ t ∈ ts, ∃ f, (DY e.Classes g s ts).2.2.fr t = some f ∧ LC e.Classes g f
 | [], s, I, _, _ => ⟨I, ⟨fun b f2 hf2 => ⟨f2, hf2, LC.refl (I.fok b f2 hf2)⟩, rfl, fun b hb => ⟨rfl, hb⟩⟩, Nat.le_refl _, fun t ht => by cases ht⟩
 | t :: ts, s, I, ht, h0 => by
  unfold DY at *
  by_cases hx : (Ev e.Classes s t g).2 ≠ 0
  ·rw [A1 hx] at h0; exact absurd h0 hx
  ·rw [Ay hx] at h0 ⊢
   obtain ⟨a1, a2, a3, f, a4, a5⟩ := V2 h I (ht t (by simp)) hg (Classical.not_not.1 hx)
   obtain ⟨b1, b2, b3, b4⟩ := XW h hg ts _ a1 (fun x hx => ht x (by simp [hx])) h0
   refine ⟨b1, a2.trans h.good b2, Nat.le_trans b3 a3, fun x hx => ?_⟩
   rw [Anh] at hx
   rcases hx with rfl | hx
   ·obtain ⟨f', c1, c2⟩ := b2.fr x f a4
    exact ⟨f', c1, a5.trans h.good c2⟩
   ·exact b4 x hx
theorem O0 {s : St} {n a size : Nat} : I2 s n a size = false ↔ ∀ x, x ≤ n → 0 < s.tk x → x ≠ a → a < x + s.tk x → ¬ x < a + size := by
 unfold I2
 rw [List.any_eq_false]
 constructor
 ·intro h x hx h1 h2 h3 h4
  have := h x (by rw [Anj]; omega)
  rw [Az] at this
  exact this ⟨h1, h2, h3, h4⟩
 ·intro h x hx
  rw [Az]
  rintro ⟨h1, h2, h3, h4⟩
  exact h x (by rw [Anj] at hx; omega) h1 h2 h3 h4
theorem Un {e : AD} {code : List UInt8} {st0 : A3} {s : St} (I : Inv e code st0 s) {a : Nat} (ha : s.new a = true) (h1 : (Bj code a).2 = 0) (h2 : I2 (off s a) code.length a (C6 (Bj code a).1.Op) = false) : MF e code st0 (lay (off s a) a (C6 (Bj code a).1.Op)) := by
 obtain ⟨f, hf⟩ := Mo (I.new a ha)
 have h1' := IB h1
 have h2' := O0.1 h2
 have hdx : ∀ x, 0 < s.tk x → x ≤ code.length := by
  intro x hx
  rcases I.dom x (I.tk x hx).1 with q | q <;> omega
 refine ⟨I.fok, I.dom, fun b hb => ?_, fun x hx => ?_, fun x y hx hy hxy => ?_, I.start⟩
 ·unfold lay off at hb
  dsimp only at hb
  by_cases hba : b = a
  ·subst hba
   rw [DX] at hb; cases hb
  ·rw [upd_ne _ _ hba] at hb
   exact I.new b hb
 ·unfold lay off at *
  dsimp only at *
  by_cases hba : x = a
  ·subst hba
   rw [DX]
   exact ⟨by rw [hf]; rfl, h1, rfl⟩
  ·rw [upd_ne _ _ hba] at hx ⊢
   exact I.tk x hx
 ·unfold lay off at *
  dsimp only at *
  by_cases hxa : x = a
  ·subst hxa
   have hya : y ≠ x := by omega
   rw [DX]
   rw [upd_ne _ _ hya] at hy
   have := h2' y (hdx y hy) hy hya (by omega)
   omega
  ·by_cases hya : y = a
   ·subst hya
    rw [upd_ne _ _ hxa] at hx ⊢
    have := fun q => h2' x (hdx x hx) hx hxa q (by omega)
    rcases Nat.lt_or_ge y (x + s.tk x) with q | q
    ·exact absurd q this
    ·exact q
   ·rw [upd_ne _ _ hxa] at hx ⊢
    rw [upd_ne _ _ hya] at hy
    exact I.dis x y hx hy hxy
theorem UK {l : List A9} {g : A3} : ∀ (ts : List Nat) (s : St), (DY l g s ts).2.1 = 0 → (DY l g s ts).1 = 0
 | [], s, _ => rfl
 | t :: ts, s, h => by
  unfold DY at *
  by_cases hx : (Ev l s t g).2 ≠ 0
  ·rw [A1 hx] at h; exact absurd h hx
  ·rw [Ay hx] at h ⊢
   exact UK ts _ h
theorem TU {e : AD} (h : Dg e) {code : List UInt8} {st0 : A3} {s : St} (I : Inv e code st0 s) {a : Nat} (ha : s.new a = true) (h0 : (CJ e code s a).2.1 = 0) :
  Inv e code st0 (CJ e code s a).2.2 ∧ mu e.Classes code.length (CJ e code s a).2.2 < mu e.Classes code.length s := by
 obtain ⟨f, hf⟩ := Mo (I.new a ha)
 have hfok := I.fok a f hf
 unfold CJ at *
 rw [hf, Am7] at h0 ⊢
 by_cases h1 : (Bj code a).2 ≠ 0
 ·rw [A1 h1] at h0; exact absurd h0 h1
 rw [Ay h1] at h0 ⊢
 have h1' := IB (Classical.not_not.1 h1)
 by_cases h2 : I2 (off s a) code.length a (C6 (Bj code a).1.Op) = true
 ·rw [A1 h2] at h0; cases h0
 rw [Ay h2] at h0 ⊢
 have h2' := O0.1 (by simpa using h2)
 by_cases h3 : (D9 e f (Bj code a).1).2 ≠ 0
 ·rw [A1 h3] at h0; exact absurd h0 h3
 rw [Ay h3] at h0 ⊢
 have h3' := Classical.not_not.1 h3
 by_cases h4 : (Li (Bj code a).1 code.length).2 ≠ 0
 ·rw [A1 h4] at h0; exact absurd h0 h4
 rw [Ay h4] at h0 ⊢
 have h4' := Classical.not_not.1 h4
 obtain ⟨on1, on2⟩ := UX h1'.2.1 h1'.2.2.2.1 (by omega) h4'
 rw [on1] at h0 ⊢
 have happ := Nj h hfok (Bj code a).1 h3'
 have I1 : MF e code st0 (lay (off s a) a (C6 (Bj code a).1.Op)) := Un I ha (Classical.not_not.1 h1) (by simpa using h2)
 obtain ⟨c1, c2, c3, c4⟩ := XW h happ.1 (CL (Bj code a).1) _ I1 on2 h0
 refine ⟨⟨c1, fun b fb hfb hnb => ?_⟩, ?_⟩
 ·obtain ⟨d1, d2⟩ := c2.same b hnb
  rw [hfb] at d1
  by_cases hba : b = a
  ·subst hba
   have hfe : fb = f := by
    have : s.fr b = some fb := d1.symm
    rw [hf] at this
    exact (Option.some.inj this).symm
   subst hfe
   refine ⟨Classical.not_not.1 h1, h3', h4', ?_, c4⟩
   rw [c2.tk]
   exact DX _ _ _
  ·have hnb' : s.new b = false := by
    unfold lay off at d2
    dsimp only at d2
    rw [upd_ne _ _ hba] at d2
    exact d2
   have D := I.clo b fb d1.symm hnb'
   refine ⟨D.ins, D.app, D.on, ?_, fun t ht => ?_⟩
   ·rw [c2.tk]
    have : (lay (off s a) a (C6 (Bj code a).1.Op)).tk b = s.tk b := upd_ne _ _ hba
    rw [this]
    exact D.tk
   ·obtain ⟨g, g1, g2⟩ := D.nx t ht
    obtain ⟨g', g3, g4⟩ := c2.fr t g g1
    exact ⟨g', g3, g2.trans h.good g4⟩
 ·refine Nat.lt_of_le_of_lt c3 ?_
  refine VI (fun b hb => ?_) ⟨a, by omega, ?_⟩
  ·unfold nu lay off
   dsimp only
   by_cases hba : b = a
   ·subst hba
    rw [DX, ha]
    simp only [Abr]
    omega
   ·rw [upd_ne _ _ hba]
    exact Nat.le_refl _
  ·unfold nu lay off
   dsimp only
   rw [DX, ha]
   simp only [Abr]
   omega
theorem LJ {s : St} {n a : Nat} (h : Hy s n = some a) : s.new a = true ∧ a ≤ n ∧ ∀ b, b < a → s.new b = false := by
 unfold Hy at h
 rw [List.find?_range_eq_some] at h
 obtain ⟨h1, h2, h3⟩ := h
 rw [Anj] at h2
 exact ⟨h1, by omega, fun b hb => by have := h3 b hb; simpa using this⟩
theorem P6 {s : St} {n : Nat} (h : Hy s n = none) : ∀ b, b ≤ n → s.new b = false := by
 unfold Hy at h
 rw [List.find?_eq_none] at h
 intro b hb
 have := h b (by rw [Anj]; omega)
 simpa using this
theorem Cu {e : AD} (h : Dg e) {code : List UInt8} {st0 : A3} : ∀ (k : Nat) (s : St), Inv e code st0 s → mu e.Classes code.length s < k → ∃ r, Ln e code k s = some r ∧ (r.2.1 = 0 → r.1 = 0 ∧ Inv e code st0 r.2.2 ∧ ∀ b, r.2.2.new b = false)
 | 0, s, _, hk => by omega
 | k + 1, s, I, hk => by
  unfold Ln
  rcases hl : Hy s code.length with _ | a
  ·refine ⟨_, rfl, fun _ => ⟨rfl, I, fun b => ?_⟩⟩
   rcases hb : s.new b with _ | _
   ·rfl
   ·have := I.dom b (I.new b hb)
    have h2 := P6 hl b (by omega)
    rw [hb] at h2; cases h2
  ·dsimp only
   by_cases h0 : (CJ e code s a).2.1 ≠ 0
   ·rw [A1 h0]
    exact ⟨_, rfl, fun q => absurd q h0⟩
   ·rw [Ay h0]
    obtain ⟨J, hm⟩ := TU h I (LJ hl).1 (Classical.not_not.1 h0)
    exact Cu h k _ J (by omega)
def st1 (f : A3) : St := ⟨fun a => if a = 0 then some f else none, fun a => decide (a = 0), fun _ => 0⟩
theorem Zv {e : AD} (h : Dg e) {code : List UInt8} {f : A3} (hf : GR e.Classes f) : Inv e code f (st1 f) := by
 have h0 : ∀ a, (if a = 0 then some f else none : Option A3).isSome = true → a = 0 := by
  intro a ha
  by_cases q : a = 0
  ·exact q
  ·rw [Ay q] at ha; cases ha
 unfold st1
 refine ⟨⟨fun a g hg => ?_, fun a ha => Or.inr (h0 a ha), fun a ha => ?_, fun x hx => ?_, fun x y hx => ?_, ⟨f, (A1 rfl : (if 0 = 0 then some f else none) = some f), LC.refl hf⟩⟩, fun a g hg hn => ?_⟩
 ·dsimp only at hg
  split at hg
  ·cases hg; exact hf
  ·cases hg
 ·dsimp only at ha ⊢
  rw [Az] at ha
  rw [A1 ha]; rfl
 ·dsimp only at hx; omega
 ·dsimp only at hx; omega
 ·dsimp only at hg hn
  rw [decide_eq_false_iff_not] at hn
  rw [Ay hn] at hg; cases hg
end Go.Proofs.YtfcpkcehecmcpaaGreat
namespace Go.Proofs.YtfcpkcehecmcpaaGreat
open Go Go.RowKit Go.Pv
theorem Q2 (op : UInt8) : JE op = some (FV op) := by
 unfold JE FV
 have e19 : ((op.toNat : Int) == 19) = decide (op.toNat = 19) := BR _ 19
 have e20 : ((op.toNat : Int) == 20) = decide (op.toNat = 20) := BR _ 20
 rw [e19, e20]
 rcases decide (op.toNat = 19) with _ | _ <;> simp
theorem Ab5 (op : UInt8) : NG op = some (FV op) := Q2 op
theorem RA (op : UInt8) : Mf op = some (HF op) := by
 unfold Mf HF
 have e19 : ((op.toNat : Int) == 19) = decide (op.toNat = 19) := BR _ 19
 have e22 : ((op.toNat : Int) == 22) = decide (op.toNat = 22) := BR _ 22
 have e32 : ((op.toNat : Int) == 32) = decide (op.toNat = 32) := BR _ 32
 rw [e19, e22, e32]
 rcases decide (op.toNat = 19) with _ | _ <;> rcases decide (op.toNat = 22) with _ | _ <;> simp
theorem Afr (op : UInt8) : NV op = some (HF op) := RA op
def ints (l : List Nat) : List Int := l.map fun (t : Nat) => (t : Int)
theorem Ajy {i : AA} {n a : Nat} (hA : i.At = a) (hs : a + C6 i.Op ≤ n) (hn : n ≤ 1048576) (h0 : FV i.Op = true → 0 ≤ i.A) : MA i (n : Int) = some (ints (Li i n).1, (Li i n).2) := by
 unfold MA Li
 rw [Ha, Am6, Ab5, Am6, Afr, Am6, Cc (by omega) (by omega)]
 by_cases h1 : FV i.Op = true ∧ i.A ≥ n
 ·rw [A1 h1.1, A1 (by rw [Az]; exact h1.2), A1 h1]
  rfl
 ·rw [Ay h1]
  have hx : (if FV i.Op = true then (if decide (i.A ≥ (n : Int)) = true then (some (Sum.inl (([] : List Int), (50 : Int)) : (List Int × Int) ⊕ Unit)) else (some (.inr ()))) else (some (.inr ()))) = some (.inr ()) := by
   by_cases hj : FV i.Op = true
   ·rw [A1 hj, Ay (by rw [Az]; exact fun q => h1 ⟨hj, q⟩)]
   ·rw [Ay hj]
  rw [hx, Am6]
  dsimp only
  by_cases h2 : HF i.Op = false ∧ i.At + C6 i.Op = n
  ·rw [A1 (by rw [h2.1]; rfl), A1 (by rw [AG]; exact h2.2), A1 h2]
   rfl
  ·rw [Ay h2]
   have hy : (if (!HF i.Op) = true then (if ((i.At + (C6 i.Op : Int)) == (n : Int)) = true then (some (Sum.inl (([] : List Int), (51 : Int)) : (List Int × Int) ⊕ Unit)) else (some (.inr ()))) else (some (.inr ()))) = some (.inr ()) := by
    by_cases hj : (!HF i.Op) = true
    ·rw [A1 hj, Ay (by rw [AG]; exact fun q => h2 ⟨by simpa using hj, q⟩)]
    ·rw [Ay hj]
   rw [hy, Am6]
   dsimp only
   unfold CL ints
   obtain ⟨b, hb⟩ : ∃ b : Nat, i.At + (C6 i.Op : Int) = b := ⟨a + C6 i.Op, by omega⟩
   rw [hb]
   rcases hj : FV i.Op with _ | _
   ·rcases he : HF i.Op with _ | _
    ·rw [Ay (by simp), Am6, A1 (by rfl), C9 (by simp), Am6, Ay (by simp)]
     simp
    ·rw [Ay (by simp), Am6, Ay (by simp), Ay (by simp)]
     simp
   ·obtain ⟨k, hk⟩ := An5 (h0 hj)
    rw [hk]
    rcases he : HF i.Op with _ | _
    ·rw [A1 rfl, Ay (by simp)]
     by_cases hlt : k < b
     ·rw [A1 (by rw [Az]; omega), C9 (by simp), Am6, Am6, A1 (by rfl), C9 (by simp), Am6, A1 rfl, Ay (by rw [Az]; omega)]
      simp [hlt]
      omega
     ·rw [Ay (by rw [Az]; omega), Am6, A1 (by rfl), C9 (by simp), Am6, A1 rfl]
      by_cases hgt : k > b
      ·rw [A1 (by rw [Az]; omega), C9 (by simp), Am6]
       simp [hlt, hgt]
      ·rw [Ay (by rw [Az]; omega)]
       simp [hlt, hgt]
    ·rw [A1 rfl, A1 (by rfl), C9 (by simp), Am6, Am6, Ay (by simp), A1 rfl]
     simp
structure I9 (n : Nat) (s : St) (R : AO) : Prop where
 has : R.Has.length = n + 1 ∧ ∀ a, a ≤ n → R.Has[a]? = some (s.fr a).isSome
 frame : R.Frame.length = n + 1 ∧ ∀ a, a ≤ n → ∀ f, s.fr a = some f → R.Frame[a]? = some f
 fresh : R.CS.length = n + 1 ∧ ∀ a, a ≤ n → R.CS[a]? = some (s.new a)
 taken : R.Taken.length = n + 1 ∧ ∀ a, a ≤ n → R.Taken[a]? = some (s.tk a : Int)
theorem Me {α : Type} {l : List α} {n a b : Nat} {x : α} (hl : l.length = n + 1) (ha : a ≤ n) : (l.set a x)[b]? = if b = a then some x else l[b]? := by
 rw [List.getElem?_set]
 by_cases h : a = b
 ·rw [A1 h, A1 (by omega), A1 h.symm]
 ·rw [Ay h, Ay (fun q => h q.symm)]
theorem I9.lay {n : Nat} {s : St} {R : AO} (h : I9 n s R) {a : Nat} (ha : a ≤ n) (f : A3) : I9 n ⟨upd s.fr a (some f), upd s.new a true, s.tk⟩ ⟨R.Has.set a true, R.Frame.set a f, R.CS.set a true, R.Taken⟩ := by
 refine ⟨⟨by rw [Anc]; exact h.has.1, fun b hb => ?_⟩, ⟨by rw [Anc]; exact h.frame.1, fun b hb g hg => ?_⟩, ⟨by rw [Anc]; exact h.fresh.1, fun b hb => ?_⟩, h.taken⟩
 ·dsimp only
  rw [Me h.has.1 ha]
  by_cases q : b = a
  ·rw [A1 q, q, DX]; rfl
  ·rw [Ay q, upd_ne _ _ q]; exact h.has.2 b hb
 ·dsimp only at *
  rw [Me h.frame.1 ha]
  by_cases q : b = a
  ·rw [A1 q]
   rw [q, DX] at hg
   exact hg
  ·rw [Ay q]
   rw [upd_ne _ _ q] at hg
   exact h.frame.2 b hb g hg
 ·dsimp only
  rw [Me h.fresh.1 ha]
  by_cases q : b = a
  ·rw [A1 q, q, DX]
  ·rw [Ay q, upd_ne _ _ q]; exact h.fresh.2 b hb
theorem Pe {f g : A3} : ((f.Locals == g.Locals) && ((f.Height == g.Height) && ((f.Slots == g.Slots) && true))) = true ↔ f = g := by
 obtain ⟨L, H, S⟩ := f
 obtain ⟨L', H', S'⟩ := g
 simp
theorem Gd {α : Type} {l : List α} {a : Nat} {x : α} (h : l[a]? = some x) : idx l (a : Int) = some x := by rw [Ot, h]
theorem Afj {e : AD} (h : Dg e) {n : Nat} {s : St} {R : AO} (hR : I9 n s R) (hs : ∀ a f, s.fr a = some f → GR e.Classes f) {a : Nat} (ha : a ≤ n) {g : A3} (hg : GR e.Classes g) :
  ∃ R', I8 R e.Classes (a : Int) g = some ((Ev e.Classes s a g).2, R') ∧ I9 n (Ev e.Classes s a g).1 R' := by
 have i1 := Gd (hR.has.2 a ha)
 have i3 := Gd (hR.fresh.2 a ha)
 have i2 : ∃ f, idx R.Frame (a : Int) = some f := by
  have : a < R.Frame.length := by rw [hR.frame.1]; omega
  exact ⟨_, Bv this⟩
 unfold I8 Ev
 rw [i1, Am6]
 rcases hf : s.fr a with _ | f
 ·obtain ⟨f0, i2⟩ := i2
  rw [A1 (by rfl), Am6, i2, Am6, i3, Am6]
  exact ⟨_, rfl, hR.lay ha g⟩
 ·have i4 := Gd (hR.frame.2 a ha f hf)
  rw [Ay (by simp), i4, Am6, show (⟨g.Locals, g.Height, g.Slots⟩ : A3) = g from rfl, Aav h.good (hs a f hf) hg, Am6]
  dsimp only
  by_cases hm : (DU e.Classes f g).2 ≠ 0
  ·rw [A1 (by rw [AN]; exact hm), A1 hm]
   exact ⟨_, rfl, hR⟩
  ·rw [Ay (by rw [AN]; exact hm), Ay hm, Am6]
   by_cases hq : (DU e.Classes f g).1 = f
   ·rw [Ay (by rw [Pe.2 hq]; simp), A1 hq]
    exact ⟨_, rfl, hR⟩
   ·rw [A1, Ay hq, Am6, i3, Am6]
    ·refine ⟨_, rfl, ?_⟩
     have := hR.lay ha (DU e.Classes f g).1
     have e1 : R.Has.set a true = R.Has := by
      have h1 : R.Has[a]? = some true := by rw [hR.has.2 a ha, hf]; rfl
      obtain ⟨hlt, h2⟩ := List.getElem?_eq_some_iff.1 h1
      rw [← h2, List.set_getElem_self]
     rw [e1] at this
     exact this
    ·rw [Bool.not_eq_true', ← Bool.not_eq_true]
     exact fun q => hq (Pe.1 q)
theorem Wn {e : AD} (h : Dg e) {code : List UInt8} {st0 : A3} {g : A3} (hg : GR e.Classes g) (x : List Int × Int) (hx : x.1.length ≤ 1048576) :
  ∀ (ts : List Nat) (i : Nat) (s : St) (R : AO), x.1.drop i = ints ts → MF e code st0 s → (∀ t ∈ ts, t < code.length) → I9 code.length s R →
   ∃ o, AQ (DN e (g, 0) x) (R.Taken, R.CS, R.Has, R.Frame, (i : Int)) = some o ∧
    if (DY e.Classes g s ts).2.1 = 0 then ∃ R', o = .inr (R'.Taken, R'.CS, R'.Has, R'.Frame) ∧ I9 code.length (DY e.Classes g s ts).2.2 R' else ∃ R', o = .inl ((DY e.Classes g s ts).1, (DY e.Classes g s ts).2.1, R')
 | [], i, s, R, hd, I, _, hR => by
  have hi : x.1.length ≤ i := by
   unfold ints at hd
   rw [List.map_nil, List.drop_eq_nil_iff] at hd
   exact hd
  refine ⟨_, Bm (r := .inr (R.Taken, R.CS, R.Has, R.Frame)) ?_, ?_⟩
  ·unfold DN
   dsimp only
   rw [Ay (by rw [Az]; omega)]
  ·unfold DY
   rw [A1 rfl]
   exact ⟨R, rfl, hR⟩
 | t :: ts, i, s, R, hd, I, ht, hR => by
  have hi : i < x.1.length := by
   rcases Nat.lt_or_ge i x.1.length with q | q
   ·exact q
   ·rw [List.drop_eq_nil_iff.2 q] at hd; cases hd
  rw [List.drop_eq_getElem_cons hi] at hd
  unfold ints at hd
  rw [List.map_cons, List.cons.injEq] at hd
  obtain ⟨hd1, hd2⟩ := hd
  obtain ⟨R', hh, hR'⟩ := Afj h hR I.fok (Nat.le_of_lt (ht t (by simp))) hg
  have hb : DN e (g, 0) x (R.Taken, R.CS, R.Has, R.Frame, (i : Int)) = if (Ev e.Classes s t g).2 ≠ 0 then some (.inr (.inl ((t : Int), (Ev e.Classes s t g).2, R'))) else some (.inl (R'.Taken, R'.CS, R'.Has, R'.Frame, ((i + 1 : Nat) : Int))) := by
   unfold DN
   dsimp only
   rw [A1 (by rw [Az]; omega), Bv hi, hd1, Am6, show (⟨R.Has, R.Frame, R.CS, R.Taken⟩ : AO) = R from rfl, show (⟨g.Locals, g.Height, g.Slots⟩ : A3) = g from rfl, hh, Am6]
   dsimp only
   by_cases hq : (Ev e.Classes s t g).2 ≠ 0
   ·rw [A1 hq, A1 (by rw [AN]; exact hq), Am6]
   ·rw [Ay hq, Ay (by rw [AN]; exact hq), CU (by omega)]
  unfold DY
  by_cases hq : (Ev e.Classes s t g).2 ≠ 0
  ·rw [A1 hq] at hb ⊢
   refine ⟨_, Bm hb, ?_⟩
   dsimp only
   rw [Ay hq]
   exact ⟨R', rfl⟩
  ·rw [Ay hq] at hb ⊢
   obtain ⟨a1, a2, a3, f, a4, a5⟩ := V2 h I (ht t (by simp)) hg (Classical.not_not.1 hq)
   obtain ⟨o, h1, h2⟩ := Wn h hg x hx ts (i + 1) _ R' hd2 a1 (fun y hy => ht y (by simp [hy])) hR'
   exact ⟨o, by rw [BQ hb]; exact h1, h2⟩
end Go.Proofs.YtfcpkcehecmcpaaGreat
namespace Go.Proofs.YtfcpkcehecmcpaaGreat
open Go Go.RowKit Go.Pv
theorem Qa {S R : Type} (n : Nat) {body : S → Option (S ⊕ R)} (I : Nat → S → Prop) {Post : R → Prop} (hs : ∀ i s, i < n → I i s → (∃ s', body s = some (.inl s') ∧ I (i + 1) s') ∨ (∃ r, body s = some (.inr r) ∧ Post r)) (he : ∀ s, I n s → ∃ r, body s = some (.inr r) ∧ Post r) : ∀ (k i : Nat) (s : S), i + k = n → I i s → ∃ r, AQ body s = some r ∧ Post r
 | 0, i, s, hi, h => by
  have : i = n := by omega
  subst this
  obtain ⟨r, h1, h2⟩ := he s h
  exact ⟨r, Bm h1, h2⟩
 | k + 1, i, s, hi, h => by
  rcases hs i s (by omega) h with ⟨s', h1, h2⟩ | ⟨r, h1, h2⟩
  ·rw [BQ h1]
   exact Qa n I hs he k (i + 1) s' (by omega) h2
  ·exact ⟨r, Bm h1, h2⟩
structure Agw (l : List A9) (ps : List UInt8) (n : Int) (f : A3) : Prop where
 fok : GR l f
 loc : f.Locals = n
 hgt : f.Height = 0
 par : ps.length ≤ n
 few : ps.length ≤ 8
 max : n ≤ 16
 slots : ∀ j (h : j < 24), f.Slots[j] = (ps[j]?).getD 0
theorem TF (l : List A9) (ps : List UInt8) (n : Int) : ∃ r, CZ l ps n = some r ∧ (r.2 = 0 → Agw l ps n r.1) := by
 unfold CZ II
 by_cases h1 : n < 0
 ·rw [A1 (by rw [Az]; exact h1), Am6, A1 (by simp)]
  exact ⟨_, rfl, fun q => by cases q⟩
 rw [Ay (by rw [Az]; exact h1)]
 by_cases h2 : n > 16
 ·rw [A1 (by rw [Az]; exact h2), Am6, A1 (by simp)]
  exact ⟨_, rfl, fun q => by cases q⟩
 rw [Ay (by rw [Az]; exact h2), Am6, Ay (by simp)]
 by_cases h3 : (ps.length : Int) > 8
 ·rw [A1 (by rw [Az]; exact h3)]
  exact ⟨_, rfl, fun q => by cases q⟩
 rw [Ay (by rw [Az]; exact h3)]
 by_cases h4 : (ps.length : Int) > n
 ·rw [A1 (by rw [Az]; exact h4)]
  exact ⟨_, rfl, fun q => by cases q⟩
 rw [Ay (by rw [Az]; exact h4)]
 dsimp only
 obtain ⟨o, ho, hP⟩ := Qa ps.length (body := DI l ps) (fun i s => s.2 = (i : Int) ∧ (∀ j (h : j < 24), s.1[j] = if j < i then (ps[j]?).getD 0 else 0) ∧ (∀ j, j < i → tv l ((ps[j]?).getD 0) = true))
  (Post := fun o => match o with
   | .inl r => r.2 ≠ 0
   | .inr v => (∀ j (h : j < 24), v[j] = (ps[j]?).getD 0) ∧ ON l v) (fun i s hi hI => by
   obtain ⟨v, k⟩ := s
   obtain ⟨q1, q2, q3⟩ := hI
   dsimp only at q1 q2
   subst q1
   unfold DI
   dsimp only
   rw [A1 (by rw [Az]; omega), Bv hi, Am6, T0, Am6]
   rcases hst : st l ps[i] with _ | _
   ·rw [A1 (by simp)]
    exact Or.inr ⟨_, rfl, by dsimp only; omega⟩
   ·rw [Ay (by simp), Jz _ _ (by omega), Am6, CU (by omega)]
    refine Or.inl ⟨_, rfl, rfl, fun j hj => ?_, fun j hj => ?_⟩
    ·dsimp only
     rw [MZ _ _ _ _ hj, q2 j hj]
     by_cases hij : i = j
     ·subst hij
      rw [A1 rfl, A1 (by omega), Am8 hi, Am7]
     ·rw [Ay hij]
      by_cases hlt : j < i
      ·rw [A1 hlt, A1 (by omega)]
      ·rw [Ay hlt, Ay (by omega)]
    ·by_cases hij : j = i
     ·subst hij
      rw [Am8 hi, Am7]
      unfold st at hst
      rw [An6] at hst
      exact hst.1
     ·exact q3 j (by omega)) (fun s hI => by
   obtain ⟨v, k⟩ := s
   obtain ⟨q1, q2, q3⟩ := hI
   dsimp only at q1 q2
   subst q1
   unfold DI
   dsimp only
   rw [Ay (by rw [Az]; omega)]
   have hv : ∀ j (h : j < 24), v[j] = (ps[j]?).getD 0 := by
    intro j hj
    rw [q2 j hj]
    by_cases hlt : j < ps.length
    ·rw [A1 hlt]
    ·rw [Ay hlt, List.getElem?_eq_none (by omega)]; rfl
   refine ⟨_, rfl, hv, fun j hj => ?_⟩
   rw [hv j hj]
   by_cases hlt : j < ps.length
   ·exact q3 j hlt
   ·rw [List.getElem?_eq_none (by omega)]
    exact Mi l) ps.length 0 (Vector.replicate 24 (0 : UInt8), (0 : Int)) (by omega) ⟨rfl, fun j hj => by simp, fun j hj => by omega⟩
 rw [ho, Am6]
 rcases o with r | v
 ·exact ⟨_, rfl, fun q => absurd q hP⟩
 ·refine ⟨_, rfl, fun _ => ⟨⟨?_, fun j hj hle => ?_, hP.2⟩, rfl, rfl, by omega, by omega, by omega, hP.1⟩⟩
  ·unfold Mz
   dsimp only
   omega
  ·dsimp only at hle ⊢
   rw [hP.1 j hj, List.getElem?_eq_none (by omega)]; rfl
theorem Acy (e : AD) (n : Int) (h : FB e.Classes) : ∃ r, Du e n = some r := by
 unfold Du
 rw [Mm _ h, Am6]
 by_cases h1 : ((LG e.Classes).2 != 0) = true
 ·rw [A1 h1]; exact ⟨_, rfl⟩
 rw [Ay h1]
 by_cases h2 : decide ((e.AP.length : Int) > 64) = true
 ·rw [A1 h2]; exact ⟨_, rfl⟩
 rw [Ay h2]
 have h64 : e.AP.length ≤ 64 := by rw [Az] at h2; omega
 have hl := FO (R := Int ⊕ Unit) e.AP.length (body := Cz e) (fun i => (Rh e i).map .inl) (r0 := .inr ()) (fun i hi => by
  unfold Cz Rh
  rw [A1 (by rw [Az]; omega), Bv hi, Am6, Am8 hi, Am6]
  dsimp only
  by_cases h8 : 8 < e.AP[i].B5.length
  ·rw [A1 (by rw [Az]; omega), A1 h8]; rfl
  ·rw [Ay (by rw [Az]; omega), Ay h8, Oi _ _ (by omega), Am6, CU (by omega)]
   rcases P7 e.Classes e.AP[i] with _ | _ <;> rfl) (by
  unfold Cz
  rw [Ay (by rw [Az]; omega)])
 rw [hl, Am6]
 rcases (((List.range e.AP.length).findSome? fun i => Option.map (Sum.inl (β := Unit)) (Rh e i)).getD (Sum.inr ())) with r | r
 ·exact ⟨_, rfl⟩
 ·dsimp only
  by_cases h3 : decide (e.Fn < 0) = true
  ·rw [A1 h3]; exact ⟨_, rfl⟩
  rw [Ay h3]
  by_cases h4 : decide (e.Fn ≥ (e.AP.length : Int)) = true
  ·rw [A1 h4]; exact ⟨_, rfl⟩
  rw [Ay h4]
  rw [Az] at h3 h4
  rw [Fc (i := e.Fn) (by omega) (by omega) ⟨[], 0⟩, Am6]
  obtain ⟨r, hr, _⟩ := TF e.Classes (((e.AP[e.Fn.toNat]?).getD ⟨[], 0⟩ : Bq).B5) n
  rw [hr]
  exact ⟨_, rfl⟩
theorem XB {n : Nat} {s : St} {R : AO} (hR : I9 n s R) (hn : n ≤ 1048576) (htk : ∀ x, s.tk x ≤ 1048576) {a size : Nat} (ha : a ≤ n) (hs : size ≤ 1048576) : Gj R (a : Int) (size : Int) = some (I2 s n a size) := by
 unfold Gj
 have hl := FO (R := Bool ⊕ Unit) (n + 1) (body := Et R (a : Int) (size : Int)) (fun x => if 0 < s.tk x ∧ x ≠ a ∧ a < x + s.tk x ∧ x < a + size then some (.inl true) else none) (r0 := .inr ()) (fun x hx => by
  unfold Et
  have i1 := Gd (hR.taken.2 x (by omega))
  have := htk x
  rw [A1 (by rw [Az, hR.taken.1]; omega), i1, Am6, Am6, CU (by omega), Cc (n := (x : Int) + (s.tk x : Int)) (by omega) (by omega), Cc (n := (a : Int) + (size : Int)) (by omega) (by omega)]
  by_cases h1 : 0 < s.tk x
  ·rw [A1 (by rw [Az]; omega)]
   by_cases h2 : x = a
   ·rw [Ay (by simp [h2]), Ay (by omega)]
   ·rw [A1 (by rw [AN]; omega)]
    by_cases h3 : a < x + s.tk x
    ·rw [A1 (by rw [Az]; omega)]
     by_cases h4 : x < a + size
     ·rw [A1 (by rw [Az]; omega), A1 ⟨h1, h2, h3, h4⟩]
     ·rw [Ay (by rw [Az]; omega), Ay (by omega)]
    ·rw [Ay (by rw [Az]; omega), Ay (by omega)]
  ·rw [Ay (by rw [Az]; omega), Ay (by omega)]) (by
  unfold Et
  rw [Ay (by rw [Az, hR.taken.1]; omega)])
 rw [hl, Am6]
 rcases hf : (List.range (n + 1)).findSome? (fun x => if 0 < s.tk x ∧ x ≠ a ∧ a < x + s.tk x ∧ x < a + size then some (Sum.inl true : Bool ⊕ Unit) else none) with _ | r
 ·have : I2 s n a size = false := by
   rw [O0]
   intro x hx h1 h2 h3 h4
   have := (List.findSome?_eq_none_iff.1 hf) x (by rw [Anj]; omega)
   rw [A1 ⟨h1, h2, h3, h4⟩] at this
   cases this
  rw [this]; rfl
 ·obtain ⟨x, hx, hr⟩ := List.exists_of_findSome?_eq_some hf
  have : I2 s n a size = true := by
   unfold I2
   rw [List.any_eq_true]
   refine ⟨x, hx, ?_⟩
   rw [Az]
   by_cases q : 0 < s.tk x ∧ x ≠ a ∧ a < x + s.tk x ∧ x < a + size
   ·exact q
   ·rw [Ay q] at hr; cases hr
  rw [this]
  split at hr
  ·cases hr; rfl
  ·cases hr
theorem MF.Ali {e : AD} {code : List UInt8} {st0 : A3} {s : St} (I : MF e code st0 s) (x : Nat) : s.tk x ≤ 6 := by
 rcases Nat.eq_zero_or_pos (s.tk x) with q | q
 ·omega
 ·obtain ⟨h1, h2, h3⟩ := I.tk x q
  rw [h3]
  unfold C6
  have := Sy (Bj code x).1.Op
  split <;> omega
theorem OE {code : List UInt8} (hl : code.length ≤ ED) {a : Nat} (ha : a < code.length) : EO code (a : Int) = some (Bj code a) ∧ Ed code (a : Int) = some (Bj code a) := by
 have : Bj code a = dec code a code[a] := by
  unfold Bj
  rw [Am8 ha]
 rw [this]
 exact ⟨Air code hl a ha, Aeh code hl a ha⟩
theorem U3 {code : List UInt8} {a : Nat} (h : (Bj code a).2 = 0) (hj : FV (Bj code a).1.Op = true) : 0 ≤ (Bj code a).1.A := by
 have hk := (IB h).2.2.2.2
 unfold Bj at *
 rw [hk] at h ⊢
 generalize (match code[a]? with
  | none => ((⟨0, 0, 0, 0⟩ : AA), (51 : Int))
  | some op => dec code a op).1.Op = op at *
 dsimp only at *
 unfold dec at *
 by_cases h0 : C6 op = 0
 ·rw [A1 h0] at h; cases h
 rw [Ay h0] at h ⊢
 by_cases h1 : code.length < a + C6 op
 ·rw [A1 h1] at h; cases h
 rw [Ay h1] at h ⊢
 dsimp only at *
 split at h
 ·cases h
 ·rename_i q
  rw [Ay q]
  dsimp only
  unfold UP
  have hw : (Ib op).1 ≠ 4 := by
   unfold FV at hj
   rw [An8, Az, Az] at hj
   unfold Ib
   rcases hj with q | q <;> simp [q]
  rw [Ay (by intro q; exact hw q.1)]
  omega
end Go.Proofs.YtfcpkcehecmcpaaGreat
namespace Go.Proofs.YtfcpkcehecmcpaaGreat
open Go Go.RowKit Go.Pv
theorem I9.off {n : Nat} {s : St} {R : AO} (h : I9 n s R) {a : Nat} (ha : a ≤ n) : I9 n (off s a) ⟨R.Has, R.Frame, R.CS.set a false, R.Taken⟩ := by
 refine ⟨h.has, h.frame, ⟨by rw [Anc]; exact h.fresh.1, fun b hb => ?_⟩, h.taken⟩
 unfold Proofs.YtfcpkcehecmcpaaGreat.off
 dsimp only
 rw [Me h.fresh.1 ha]
 by_cases q : b = a
 ·rw [A1 q, q, DX]
 ·rw [Ay q, upd_ne _ _ q]; exact h.fresh.2 b hb
theorem I9.tk {n : Nat} {s : St} {R : AO} (h : I9 n s R) {a : Nat} (ha : a ≤ n) (k : Nat) : I9 n (Proofs.YtfcpkcehecmcpaaGreat.lay s a k) ⟨R.Has, R.Frame, R.CS, R.Taken.set a (k : Int)⟩ := by
 refine ⟨h.has, h.frame, h.fresh, ⟨by rw [Anc]; exact h.taken.1, fun b hb => ?_⟩⟩
 unfold Proofs.YtfcpkcehecmcpaaGreat.lay
 dsimp only
 rw [Me h.taken.1 ha]
 by_cases q : b = a
 ·rw [A1 q, q, DX]
 ·rw [Ay q, upd_ne _ _ q]; exact h.taken.2 b hb
theorem Ah8 (op : UInt8) : C6 op ≤ 6 := by
 unfold C6
 have := Sy op
 split <;> omega
theorem W8 {code : List UInt8} {a : Nat} (h : ¬ a < code.length) : Bj code a = (⟨0, 0, 0, 0⟩, 51) := by
 unfold Bj
 rw [List.getElem?_eq_none (by omega)]
theorem Ab9 {e : AD} (h : Dg e) {code : List UInt8} (hl : code.length ≤ 4096) {st0 : A3} {s : St} {R : AO} (I : Inv e code st0 s) (hR : I9 code.length s R) {a : Nat} (ha : s.new a = true) :
  ∃ R', Ir R e code (a : Int) = some ((CJ e code s a).1, (CJ e code s a).2.1, R') ∧ ((CJ e code s a).2.1 = 0 → I9 code.length (CJ e code s a).2.2 R') := by
 obtain ⟨f, hf⟩ := Mo (I.new a ha)
 have hfok := I.fok a f hf
 have han : a ≤ code.length := by rcases I.dom a (I.new a ha) with q | q <;> omega
 unfold Ir CJ
 rw [Gd (hR.fresh.2 a han), Am6, An4, hf, Am7]
 by_cases hn : a < code.length
 ·rw [Ay (by rw [AG]; omega), (OE (show code.length ≤ ED by simp only [ED]; omega) hn).1, Am6]
  by_cases h1 : (Bj code a).2 ≠ 0
  ·rw [A1 (by rw [AN]; exact h1), A1 h1]
   exact ⟨_, rfl, fun q => absurd q h1⟩
  rw [Ay (by rw [AN]; exact h1), Ay h1, Ha, Am6]
  have h1' := IB (Classical.not_not.1 h1)
  rw [XB (hR.off han) (by omega) (fun x => Nat.le_trans (I.Ali x) (by omega)) han (Nat.le_trans (Ah8 _) (by omega)), Am6]
  by_cases h2 : I2 (off s a) code.length a (C6 (Bj code a).1.Op) = true
  ·rw [A1 h2, A1 h2]
   exact ⟨_, rfl, fun q => by cases q⟩
  rw [Ay h2, Ay h2, Gd (hR.taken.2 a han), Am6, Gd (hR.frame.2 a han f hf), Am6, show (⟨e.Classes, e.AP, e.Fn⟩ : AD) = e from rfl,
   show (⟨(Bj code a).1.At, (Bj code a).1.Op, (Bj code a).1.A, (Bj code a).1.B⟩ : AA) = (Bj code a).1 from rfl, Ade h hfok, Am6]
  by_cases h3 : (D9 e f (Bj code a).1).2 ≠ 0
  ·rw [A1 (by rw [AN]; exact h3), A1 h3]
   exact ⟨_, rfl, fun q => absurd q h3⟩
  have h3' := Classical.not_not.1 h3
  rw [Ay (by rw [AN]; exact h3), Ay h3, Ajy h1'.2.1 h1'.2.2.2.1 (by omega) (U3 (Classical.not_not.1 h1)), Am6]
  by_cases h4 : (Li (Bj code a).1 code.length).2 ≠ 0
  ·dsimp only
   rw [A1 (by rw [AN]; exact h4), A1 h4]
   exact ⟨_, rfl, fun q => absurd q h4⟩
  have h4' := Classical.not_not.1 h4
  obtain ⟨on1, on2⟩ := UX h1'.2.1 h1'.2.2.2.1 (by omega) h4'
  have happ := Nj h hfok (Bj code a).1 h3'
  rw [Ay h4]
  dsimp only
  rw [Ay (by rw [AN]; exact h4)]
  have I1 : MF e code st0 (lay (off s a) a (C6 (Bj code a).1.Op)) := Un I ha (Classical.not_not.1 h1) (by simpa using h2)
  have hR1 : I9 code.length (lay (off s a) a (C6 (Bj code a).1.Op)) ⟨R.Has, R.Frame, R.CS.set a false, R.Taken.set a (C6 (Bj code a).1.Op : Int)⟩ := (hR.off han).tk han _
  have hx8 : (ints (Li (Bj code a).1 code.length).1).length ≤ 1048576 := by
   rw [on1]
   unfold ints CL
   rw [Ana, Am9, Am9]
   split <;> split <;> split <;> simp
  obtain ⟨o, ho1, Hw⟩ := Wn h happ.1 (ints (Li (Bj code a).1 code.length).1, (Li (Bj code a).1 code.length).2) hx8 (Li (Bj code a).1 code.length).1 0 _ _ (by rw [List.drop_zero]) I1 (by rw [on1]; exact on2) hR1
  have hpair : (D9 e f (Bj code a).1) = ((D9 e f (Bj code a).1).1, (0 : Int)) := Prod.ext rfl h3'
  rw [hpair]
  rw [show ((0 : Nat) : Int) = 0 from rfl] at ho1
  dsimp only at ho1 ⊢
  rw [ho1, Am6]
  by_cases hz : (DY e.Classes (D9 e f (Bj code a).1).1 (lay (off s a) a (C6 (Bj code a).1.Op)) (Li (Bj code a).1 code.length).1).2.1 = 0
  ·rw [A1 hz] at Hw
   obtain ⟨R', rfl, hR'⟩ := Hw
   refine ⟨R', ?_, fun _ => hR'⟩
   dsimp only
   rw [hz, UK _ _ hz]
  ·rw [Ay hz] at Hw
   obtain ⟨R', rfl⟩ := Hw
   exact ⟨R', rfl, fun q => absurd q hz⟩
 ·rw [A1 (by rw [AG]; omega), W8 hn]
  dsimp only
  rw [A1 (by omega)]
  exact ⟨_, rfl, fun q => by cases q⟩
def OP (s : St) (n : Nat) : Int := match Hy s n with
 | none => -1
 | some a => (a : Int)
theorem Adg {n : Nat} {s : St} {R : AO} (hR : I9 n s R) (hn : n ≤ 1048576) : HZ R = some (OP s n) := by
 unfold HZ
 have hl := FO (R := Int ⊕ Unit) (n + 1) (body := EH R) (fun x => if s.new x = true then some (.inl (x : Int)) else none) (r0 := .inr ()) (fun x hx => by
  unfold EH
  rw [A1 (by rw [Az, hR.fresh.1]; omega), Gd (hR.fresh.2 x (by omega)), Am6, CU (by omega)]
  rcases s.new x with _ | _ <;> rfl) (by
  unfold EH
  rw [Ay (by rw [Az, hR.fresh.1]; omega)])
 rw [hl, Am6]
 unfold OP Hy
 have key : ∀ L : List Nat, L.findSome? (fun x => if s.new x = true then some (Sum.inl (x : Int) : Int ⊕ Unit) else none) = (L.find? s.new).map fun a => Sum.inl (a : Int) := by
  intro L
  induction L with
  | nil => rfl
  | cons x L ih =>
   rw [List.findSome?_cons, List.find?_cons]
   rcases s.new x with _ | _
   ·rw [Ay (by simp)]; exact ih
   ·rw [A1 rfl]; rfl
 rw [key]
 rcases (List.range (n + 1)).find? s.new with _ | a
 ·rfl
 ·rfl
theorem ZJ {e : AD} (h : Dg e) {code : List UInt8} (hl : code.length ≤ 4096) {st0 : A3} : ∀ (k : Nat) (s : St) (R : AO) (r : Int × Int × St), Inv e code st0 s → I9 code.length s R → Ln e code k s = some r →
  ∃ o, AQ (Fu e code) (R.Has, R.Frame, R.CS, R.Taken, OP s code.length) = some o ∧ if r.2.1 = 0 then ∃ R', o = .inr (R'.Has, R'.Frame, R'.CS, R'.Taken) ∧ I9 code.length r.2.2 R' else o = .inl ([], r.1, r.2.1)
 | 0, s, R, r, _, _, hr => by cases hr
 | k + 1, s, R, r, I, hR, hr => by
  unfold Ln at hr
  unfold OP
  rcases hq : Hy s code.length with _ | a
  ·rw [hq] at hr
   dsimp only at hr ⊢
   cases hr
   refine ⟨_, Bm (r := .inr (R.Has, R.Frame, R.CS, R.Taken)) ?_, ?_⟩
   ·unfold Fu
    dsimp only
    rw [Ay (by simp)]
   ·dsimp only
    rw [A1 rfl]
    exact ⟨R, rfl, hR⟩
  ·rw [hq] at hr
   dsimp only at hr ⊢
   obtain ⟨R', h1, h2⟩ := Ab9 h hl I hR (LJ hq).1
   by_cases h0 : (CJ e code s a).2.1 ≠ 0
   ·rw [A1 h0] at hr
    cases hr
    refine ⟨_, Bm (r := .inl ([], (CJ e code s a).1, (CJ e code s a).2.1)) ?_, ?_⟩
    ·unfold Fu
     dsimp only
     rw [A1 (by rw [Az]; omega), show (⟨R.Has, R.Frame, R.CS, R.Taken⟩ : AO) = R from rfl, show (⟨e.Classes, e.AP, e.Fn⟩ : AD) = e from rfl, h1, Am6]
     dsimp only
     rw [A1 (by rw [AN]; exact h0)]
    ·rw [Ay h0]
   ·rw [Ay h0] at hr
    have h0' := Classical.not_not.1 h0
    have hR' := h2 h0'
    obtain ⟨J, _⟩ := TU h I (LJ hq).1 h0'
    obtain ⟨o, o1, o2⟩ := ZJ h hl k _ R' r J hR' hr
    refine ⟨o, ?_, o2⟩
    rw [BQ (s' := (R'.Has, R'.Frame, R'.CS, R'.Taken, OP (CJ e code s a).2.2 code.length))]
    ·exact o1
    ·unfold Fu
     dsimp only
     rw [A1 (by rw [Az]; omega), show (⟨R.Has, R.Frame, R.CS, R.Taken⟩ : AO) = R from rfl, show (⟨e.Classes, e.AP, e.Fn⟩ : AD) = e from rfl, h1, Am6]
     dsimp only
     rw [Ay (by rw [AN]; exact h0), show (⟨R'.Has, R'.Frame, R'.CS, R'.Taken⟩ : AO) = R' from rfl, Adg hR' (by omega), Am6]
def Ej (s : St) (n : Nat) : List B0 := (List.range n).filterMap fun a => (s.fr a).map fun f => ⟨(a : Int), false, f⟩
theorem Pm (s : St) (i : Nat) : Ej s (i + 1) = Ej s i ++ match s.fr i with
  | none => []
  | some f => [⟨(i : Int), false, f⟩] := by
 unfold Ej
 rw [Anp, List.filterMap_append]
 congr 1
 rcases h : s.fr i with _ | f
 ·simp [h]
 ·simp [h]
theorem Nc (s : St) : ∀ i, (Ej s i).length ≤ i
 | 0 => by simp [Ej]
 | i + 1 => by
  have := Nc s i
  rw [Pm, Am9]
  split <;> simp <;> omega
theorem Afd {code : List UInt8} (hl : code.length ≤ 4096) {s : St} {R : AO} (hR : I9 code.length s R) : AQ (G8 code (R.Has, R.Frame, R.CS, R.Taken)) (([] : List B0), 0) = some (Ej s code.length) := by
 refine GE code.length (fun i => (Ej s i, (i : Int))) (fun i hi => ?_) ?_ rfl
 ·unfold G8
  dsimp only
  rw [A1 (by rw [Az]; omega), Gd (hR.has.2 i (by omega)), Am6, Pm, CU (by omega)]
  rcases hf : s.fr i with _ | f
  ·rw [Ay (by simp)]; simp
  ·have := Nc s i
   rw [A1 (by rfl), Gd (hR.frame.2 i (by omega) f hf), Am6, C9 (by simp; omega), Am6]
 ·unfold G8
  dsimp only
  rw [Ay (by rw [Az]; omega)]
end Go.Proofs.YtfcpkcehecmcpaaGreat
namespace Go.Proofs.YtfcpkcehecmcpaaGreat
open Go Go.RowKit Go.Pv
structure J4 (e : AD) (code : List UInt8) (s : St) (S : AM) : Prop where
 env : S.e = e
 code : S.code = code
 fr : ∀ k : Int, BJ S.frames k = if 0 ≤ k then s.fr k.toNat else none
 frn : (S.frames.map Prod.fst).Nodup
 fresh : ∀ k : Int, (BJ S.fresh k).isSome = true ↔ (0 ≤ k ∧ s.new k.toNat = true)
 OT : (S.fresh.map Prod.fst).Nodup
 taken : ∀ b x : Int, BJ S.taken b = some x ↔ ∃ y : Nat, x = y ∧ 0 < s.tk y ∧ (y : Int) ≤ b ∧ b < y + s.tk y
theorem J4.lay {e : AD} {code : List UInt8} {s : St} {S : AM} (h : J4 e code s S) (a : Nat) (f : A3) (w : Int) : J4 e code ⟨upd s.fr a (some f), upd s.new a true, s.tk⟩ ⟨S.e, S.code, C7 S.frames (a : Int) f, C7 S.fresh (a : Int) (), S.taken, w⟩ := by
 refine ⟨h.env, h.code, fun k => ?_, MI h.frn _ _, fun k => ?_, MI h.OT _ _, h.taken⟩
 ·dsimp only
  rw [JA, h.fr k]
  by_cases hk : k = (a : Int)
  ·rw [A1 hk, A1 (by omega), hk, An4, DX]
  ·rw [Ay hk]
   by_cases h0 : 0 ≤ k
   ·rw [A1 h0, A1 h0, upd_ne _ _ (by omega)]
   ·rw [Ay h0, Ay h0]
 ·dsimp only
  rw [JA]
  by_cases hk : k = (a : Int)
  ·rw [A1 hk, hk, An4, DX]
   simp
  ·rw [Ay hk, h.fresh k]
   constructor
   ·rintro ⟨h0, h1⟩
    exact ⟨h0, by rw [upd_ne _ _ (by omega)]; exact h1⟩
   ·rintro ⟨h0, h1⟩
    rw [upd_ne _ _ (by omega)] at h1
    exact ⟨h0, h1⟩
theorem Ac1 {e : AD} (h : Dg e) {code : List UInt8} {s : St} {S : AM} (hS : J4 e code s S) (hs : ∀ a f, s.fr a = some f → GR e.Classes f) (a : Nat) {g : A3} (hg : GR e.Classes g) :
  ∃ S', FK S (a : Int) g = some ((Ev e.Classes s a g).2, S') ∧ J4 e code (Ev e.Classes s a g).1 S' ∧ ((Ev e.Classes s a g).2 ≠ 0 → S'.B2 = a) ∧ ((Ev e.Classes s a g).2 = 0 → S'.B2 = S.B2) := by
 have i1 := hS.fr (a : Int)
 rw [A1 (by omega), An4] at i1
 unfold FK Ev
 rw [i1]
 rcases hf : s.fr a with _ | f
 ·rw [Ay (by simp), Am6]
  dsimp only
  rw [A1 (by rfl)]
  exact ⟨_, rfl, hS.lay a g _, fun q => absurd rfl q, fun _ => rfl⟩
 ·rw [A1 (by rfl)]
  simp only [Am7]
  rw [show (⟨f.Locals, f.Height, f.Slots⟩ : A3) = f from rfl, show (⟨g.Locals, g.Height, g.Slots⟩ : A3) = g from rfl, hS.env, Abe h.good (hs a f hf) hg, Am6]
  by_cases hm : (DU e.Classes f g).2 ≠ 0
  ·rw [A1 (by rw [AN]; exact hm), A1 hm, Am6]
   exact ⟨_, rfl, ⟨rfl, hS.code, hS.fr, hS.frn, hS.fresh, hS.OT, hS.taken⟩, fun _ => rfl, fun q => absurd q hm⟩
  ·rw [Ay (by rw [AN]; exact hm), Ay hm, Am6]
   dsimp only
   rw [Ay (by simp)]
   by_cases hq : (DU e.Classes f g).1 = f
   ·rw [Ay (by rw [Pe.2 hq]; simp), A1 hq]
    exact ⟨_, rfl, ⟨rfl, hS.code, hS.fr, hS.frn, hS.fresh, hS.OT, hS.taken⟩, fun q => absurd rfl q, fun _ => rfl⟩
   ·rw [A1, Ay hq]
    ·have := hS.lay a (DU e.Classes f g).1 S.B2
     rw [hS.env] at this
     exact ⟨_, rfl, this, fun q => absurd rfl q, fun _ => rfl⟩
    ·rw [Bool.not_eq_true', ← Bool.not_eq_true]
     exact fun q => hq (Pe.1 q)
theorem Vs {e : AD} (h : Dg e) {code : List UInt8} {st0 : A3} {g : A3} (hg : GR e.Classes g) (x : List Int) (hx : x.length ≤ 1048576) :
  ∀ (ts : List Nat) (i : Nat) (s : St) (S : AM), x.drop i = ints ts → MF e code st0 s → (∀ t ∈ ts, t < code.length) → J4 e code s S →
   ∃ o, AQ (CP (g, 0) x) (S.e.Classes, S.e.AP, S.e.Fn, S.code, S.B2, S.frames, S.fresh, S.taken, (i : Int)) = some o ∧
    if (DY e.Classes g s ts).2.1 = 0 then ∃ S', o = .inr (S'.e.Classes, S'.e.AP, S'.e.Fn, S'.code, S'.B2, S'.frames, S'.fresh, S'.taken) ∧ J4 e code (DY e.Classes g s ts).2.2 S' else ∃ S', o = .inl ((DY e.Classes g s ts).2.1, S') ∧ S'.B2 = (DY e.Classes g s ts).1 ∧ S'.e = e ∧ S'.code = code
 | [], i, s, S, hd, I, _, hS => by
  have hi : x.length ≤ i := by
   unfold ints at hd
   rw [List.map_nil, List.drop_eq_nil_iff] at hd
   exact hd
  refine ⟨_, Bm (r := .inr (S.e.Classes, S.e.AP, S.e.Fn, S.code, S.B2, S.frames, S.fresh, S.taken)) ?_, ?_⟩
  ·unfold CP
   dsimp only
   rw [Ay (by rw [Az]; omega)]
  ·unfold DY
   rw [A1 rfl]
   exact ⟨S, rfl, hS⟩
 | t :: ts, i, s, S, hd, I, ht, hS => by
  have hi : i < x.length := by
   rcases Nat.lt_or_ge i x.length with q | q
   ·exact q
   ·rw [List.drop_eq_nil_iff.2 q] at hd; cases hd
  rw [List.drop_eq_getElem_cons hi] at hd
  unfold ints at hd
  rw [List.map_cons, List.cons.injEq] at hd
  obtain ⟨hd1, hd2⟩ := hd
  obtain ⟨S', hh, hS', hw1, hw2⟩ := Ac1 h hS I.fok t hg
  have hb : CP (g, 0) x (S.e.Classes, S.e.AP, S.e.Fn, S.code, S.B2, S.frames, S.fresh, S.taken, (i : Int)) = if (Ev e.Classes s t g).2 ≠ 0 then some (.inr (.inl ((Ev e.Classes s t g).2, S'))) else some (.inl (S'.e.Classes, S'.e.AP, S'.e.Fn, S'.code, S'.B2, S'.frames, S'.fresh, S'.taken, ((i + 1 : Nat) : Int))) := by
   unfold CP
   dsimp only
   rw [A1 (by rw [Az]; omega), Bv hi, hd1, Am6, show (⟨(⟨S.e.Classes, S.e.AP, S.e.Fn⟩ : AD), S.code, S.frames, S.fresh, S.taken, S.B2⟩ : AM) = S from rfl, show (⟨g.Locals, g.Height, g.Slots⟩ : A3) = g from rfl, hh, Am6]
   dsimp only
   by_cases hq : (Ev e.Classes s t g).2 ≠ 0
   ·rw [A1 hq, A1 (by rw [AN]; exact hq)]
   ·rw [Ay hq, Ay (by rw [AN]; exact hq), CU (by omega)]
  unfold DY
  by_cases hq : (Ev e.Classes s t g).2 ≠ 0
  ·rw [A1 hq] at hb ⊢
   refine ⟨_, Bm hb, ?_⟩
   dsimp only
   rw [Ay hq]
   exact ⟨S', rfl, hw1 hq, hS'.env, hS'.code⟩
  ·rw [Ay hq] at hb ⊢
   obtain ⟨a1, a2, a3, f, a4, a5⟩ := V2 h I (ht t (by simp)) hg (Classical.not_not.1 hq)
   obtain ⟨o, h1, h2⟩ := Vs h hg x hx ts (i + 1) _ S' hd2 a1 (fun y hy => ht y (by simp [hy])) hS'
   exact ⟨o, by rw [BQ hb]; exact h1, h2⟩
theorem Acd {e : AD} {code : List UInt8} {s : St} {S : AM} (hS : J4 e code s S) {n a k : Nat} {i : AA} (hA : i.At = a) (hk : C6 i.Op = k) (hk0 : 0 < k) (hn : a + k ≤ n) (hn2 : n ≤ 1048576) (hdom : ∀ x, 0 < s.tk x → x ≤ n) (hsame : 0 < s.tk a → s.tk a = k) :
  ∃ S', FY S i = some (!I2 s n a k, S') ∧ S'.e = e ∧ S'.code = code ∧ S'.B2 = S.B2 ∧ (I2 s n a k = false → J4 e code (Proofs.YtfcpkcehecmcpaaGreat.lay s a k) S') := by
 have hover : I2 s n a k = false ↔ ∀ j, j < k → ∀ x : Int, BJ S.taken ((a : Int) + j) = some x → x = a := by
  rw [O0]
  constructor
  ·intro h j hj x hx
   obtain ⟨y, rfl, h1, h2, h3⟩ := (hS.taken _ _).1 hx
   by_cases hya : y = a
   ·rw [hya]
   ·exact absurd (show y < a + k by omega) (h y (hdom y h1) h1 hya (by omega))
  ·intro h y hy h1 h2 h3 h4
   by_cases hle : y ≤ a
   ·have := h 0 (by omega) (y : Int) ((hS.taken _ _).2 ⟨y, rfl, h1, by omega, by omega⟩)
    omega
   ·have := h (y - a) (by omega) (y : Int) ((hS.taken _ _).2 ⟨y, rfl, h1, by omega, by omega⟩)
    omega
 have step : ∀ (T : List (Int × Int)) (j : Nat), j < k → C2 S i (T, (a : Int) + j) = if (∃ x : Int, BJ T ((a : Int) + j) = some x ∧ x ≠ a) then some (.inr (.inl (false, ⟨S.e, S.code, S.frames, S.fresh, T, S.B2⟩))) else some (.inl (C7 T ((a : Int) + j) a, (a : Int) + (j + 1 : Nat))) := by
  intro T j hj
  unfold C2
  rw [size_eq, Ha, Am6, hA, hk, Cc (n := (a : Int) + (k : Int)) (by omega) (by omega)]
  dsimp only
  rw [A1 (by rw [Az]; omega), Cc (by omega) (by omega)]
  rcases hx : BJ T ((a : Int) + (j : Int)) with _ | x
  ·rw [Ay (by simp), Ay (by rintro ⟨x, q, _⟩; cases q), show (a : Int) + (j : Int) + 1 = (a : Int) + ((j + 1 : Nat) : Int) by omega]
  ·rw [A1 (by rfl), Am7]
   by_cases hxa : x = a
   ·rw [Ay (by simp [hxa]), Ay (by rintro ⟨y, q, q2⟩; cases q; exact q2 hxa), show (a : Int) + (j : Int) + 1 = (a : Int) + ((j + 1 : Nat) : Int) by omega]
   ·rw [A1 (by rw [AN]; exact hxa), A1 ⟨x, rfl, hxa⟩]
 have stop : ∀ T : List (Int × Int), C2 S i (T, (a : Int) + k) = some (.inr (.inr T)) := by
  intro T
  unfold C2
  rw [size_eq, Ha, Am6, hA, hk, Cc (n := (a : Int) + (k : Int)) (by omega) (by omega)]
  dsimp only
  rw [Ay (by rw [Az]; omega)]
 have key : ∀ m j T, j + m = k → (∀ b : Int, BJ T b = if (a : Int) ≤ b ∧ b < a + j then some (a : Int) else BJ S.taken b) →
   ((∀ j', j ≤ j' → j' < k → ∀ x : Int, BJ S.taken ((a : Int) + j') = some x → x = a) ∧ ∃ T', AQ (C2 S i) (T, (a : Int) + j) = some (.inr T') ∧ ∀ b : Int, BJ T' b = if (a : Int) ≤ b ∧ b < a + k then some (a : Int) else BJ S.taken b) ∨
   ((∃ j', j ≤ j' ∧ j' < k ∧ ∃ x : Int, BJ S.taken ((a : Int) + j') = some x ∧ x ≠ a) ∧ ∃ T', AQ (C2 S i) (T, (a : Int) + j) = some (.inl (false, ⟨S.e, S.code, S.frames, S.fresh, T', S.B2⟩))) := by
  intro m
  induction m with
  | zero =>
   intro j T hj hT
   have : j = k := by omega
   subst this
   exact Or.inl ⟨fun j' h1 h2 => by omega, T, Bm (stop T), hT⟩
  | succ m ih =>
   intro j T hj hT
   have hs := step T j (by omega)
   have hTj : BJ T ((a : Int) + j) = BJ S.taken ((a : Int) + j) := by rw [hT, Ay (by omega)]
   rw [hTj] at hs
   by_cases hbad : ∃ x : Int, BJ S.taken ((a : Int) + j) = some x ∧ x ≠ a
   ·rw [A1 hbad] at hs
    exact Or.inr ⟨⟨j, Nat.le_refl _, by omega, hbad⟩, T, Bm hs⟩
   ·rw [Ay hbad] at hs
    have hok : ∀ x : Int, BJ S.taken ((a : Int) + j) = some x → x = a := fun x hx => Classical.byContradiction fun q => hbad ⟨x, hx, q⟩
    rcases ih (j + 1) (C7 T ((a : Int) + j) a) (by omega) (fun b => by
     rw [JA, hT b]
     by_cases hb : b = (a : Int) + j
     ·rw [A1 hb, A1 (by omega)]
     ·rw [Ay hb]
      by_cases hb2 : (a : Int) ≤ b ∧ b < a + j
      ·rw [A1 hb2, A1 (by omega)]
      ·rw [Ay hb2, Ay (by omega)]) with ⟨h1, T', h2, h3⟩ | ⟨⟨j', h1, h2, h3⟩, T', h4⟩
    ·refine Or.inl ⟨fun j' q1 q2 => ?_, T', by rw [BQ hs]; exact h2, h3⟩
     by_cases hjj : j' = j
     ·subst hjj; exact hok
     ·exact h1 j' (by omega) q2
    ·exact Or.inr ⟨⟨j', by omega, h2, h3⟩, T', by rw [BQ hs]; exact h4⟩
 unfold FY
 rw [hA]
 rcases key k 0 S.taken (by omega) (fun b => by rw [Ay (by omega)]) with ⟨h1, T', h2, h3⟩ | ⟨⟨j, h1, h2, x, h3, h4⟩, T', h5⟩
 ·have ho : I2 s n a k = false := hover.2 fun j hj => h1 j (by omega) hj
  rw [show (a : Int) + ((0 : Nat) : Int) = a by omega] at h2
  rw [h2, Am6, ho]
  refine ⟨_, rfl, hS.env, hS.code, rfl, fun _ => ⟨hS.env, hS.code, hS.fr, hS.frn, hS.fresh, hS.OT, fun b x => ?_⟩⟩
  dsimp only
  rw [h3 b]
  unfold Proofs.YtfcpkcehecmcpaaGreat.lay
  dsimp only
  by_cases hb : (a : Int) ≤ b ∧ b < a + k
  ·rw [A1 hb]
   constructor
   ·intro q
    cases q
    exact ⟨a, rfl, by rw [DX]; omega, hb.1, by rw [DX]; omega⟩
   ·rintro ⟨y, rfl, q1, q2, q3⟩
    by_cases hya : y = a
    ·rw [hya]
    ·rw [upd_ne _ _ hya] at q1 q3
     exact absurd (show y < a + k by omega) (O0.1 ho y (hdom y q1) q1 hya (by omega))
  ·rw [Ay hb, hS.taken]
   constructor
   ·rintro ⟨y, rfl, q1, q2, q3⟩
    by_cases hya : y = a
    ·subst hya
     have := hsame q1
     omega
    ·exact ⟨y, rfl, by rw [upd_ne _ _ hya]; exact q1, q2, by rw [upd_ne _ _ hya]; exact q3⟩
   ·rintro ⟨y, rfl, q1, q2, q3⟩
    by_cases hya : y = a
    ·subst hya
     rw [DX] at q3
     omega
    ·rw [upd_ne _ _ hya] at q1 q3
     exact ⟨y, rfl, q1, q2, q3⟩
 ·have ho : I2 s n a k = true := by
   rcases hq : I2 s n a k with _ | _
   ·exact absurd (hover.1 hq j h2 x h3) h4
   ·rfl
  rw [show (a : Int) + ((0 : Nat) : Int) = a by omega] at h5
  rw [h5, Am6, ho]
  exact ⟨_, rfl, hS.env, hS.code, rfl, fun q => by cases q⟩
theorem Wl {i : AA} (h0 : FV i.Op = true → 0 ≤ i.A) (h1 : 0 ≤ i.At) (x : Int) : x ∈ ints (CL i) ↔ (FV i.Op = true ∧ x = i.A) ∨ (HF i.Op = false ∧ x = i.At + C6 i.Op) := by
 obtain ⟨b, hb⟩ : ∃ b : Nat, i.At + (C6 i.Op : Int) = b := ⟨(i.At + C6 i.Op).toNat, by omega⟩
 unfold ints CL
 rw [hb]
 rcases hj : FV i.Op with _ | _
 ·rcases he : HF i.Op with _ | _ <;> simp
 ·obtain ⟨k, hk⟩ := An5 (h0 hj)
  rw [hk]
  rcases he : HF i.Op with _ | _
  ·by_cases hlt : k < b
   ·have : ¬ k > b := by omega
    simp [hlt, this]
   ·by_cases hgt : k > b
    ·simp [hlt, hgt, or_comm]
    ·have : k = b := by omega
     simp [this]
  ·simp
theorem O2 {i : AA} (h0 : FV i.Op = true → 0 ≤ i.A) (h1 : 0 ≤ i.At) : (ints (CL i)).Pairwise (· < ·) := by
 obtain ⟨b, hb⟩ : ∃ b : Nat, i.At + (C6 i.Op : Int) = b := ⟨(i.At + C6 i.Op).toNat, by omega⟩
 unfold ints CL
 rw [hb]
 rcases hj : FV i.Op with _ | _
 ·rcases he : HF i.Op with _ | _ <;> simp
 ·obtain ⟨k, hk⟩ := An5 (h0 hj)
  rw [hk]
  rcases he : HF i.Op with _ | _
  ·by_cases hlt : k < b
   ·have : ¬ k > b := by omega
    simp [hlt, this]
   ·by_cases hgt : k > b
    ·simp [hlt, hgt]
    ·simp [hlt, hgt]
  ·simp
end Go.Proofs.YtfcpkcehecmcpaaGreat
namespace Go.Proofs.YtfcpkcehecmcpaaGreat
open Go Go.RowKit Go.Pv
theorem Ae3 {l : List Int} (hl : l.length ≤ 8) {r : List Int} (hr : r.Pairwise (· < ·)) (hm : ∀ a, a ∈ r ↔ a ∈ l) : ∃ x, Ol l = some x ∧ LU x = some r := by
 obtain ⟨r', h1, h2, h3⟩ := PI l (by omega)
 obtain ⟨x, hx, hx2⟩ := Option.bind_eq_some_iff.1 h1
 refine ⟨x, hx, ?_⟩
 rw [hx2, KT h2 hr fun a => (h3 a).trans (hm a).symm]
theorem Aa9 {e : AD} (h : Dg e) {code : List UInt8} (hl : code.length ≤ 4096) {st0 : A3} {s : St} {S : AM} (I : Inv e code st0 s) {a : Nat} (ha : s.new a = true) (hS : J4 e code (off s a) S) :
  ∃ S', FH S (a : Int) = some ((CJ e code s a).2.1, S') ∧ S'.e = e ∧ S'.code = code ∧ ((CJ e code s a).2.1 = 0 → J4 e code (CJ e code s a).2.2 S') ∧ ((CJ e code s a).2.1 ≠ 0 → S'.B2 = (CJ e code s a).1) := by
 obtain ⟨f, hf⟩ := Mo (I.new a ha)
 have hfok := I.fok a f hf
 have han : a ≤ code.length := by rcases I.dom a (I.new a ha) with q | q <;> omega
 unfold FH CJ
 rw [hf, Am7, hS.code]
 by_cases hn : a < code.length
 ·rw [Ay (by rw [AG]; omega), (OE (show code.length ≤ ED by simp only [ED]; omega) hn).2, Am6]
  by_cases h1 : (Bj code a).2 ≠ 0
  ·rw [A1 (by rw [AN]; exact h1), A1 h1]
   exact ⟨_, rfl, hS.env, rfl, fun q => absurd q h1, fun _ => rfl⟩
  rw [Ay (by rw [AN]; exact h1), Ay h1]
  have h1' := IB (Classical.not_not.1 h1)
  have hS0 : J4 e code (off s a) ⟨⟨S.e.Classes, S.e.AP, S.e.Fn⟩, code, S.frames, S.fresh, S.taken, (a : Int)⟩ := ⟨hS.env, rfl, hS.fr, hS.frn, hS.fresh, hS.OT, hS.taken⟩
  obtain ⟨S1, t1, t2, t3, t4, t5⟩ := Acd hS0 (n := code.length) h1'.2.1 rfl h1'.2.2.1 h1'.2.2.2.1 (by omega) (fun x hx => by
   rcases I.dom x (I.tk x hx).1 with q | q <;> omega) (fun hx => (I.tk a hx).2.2)
  rw [show (⟨(Bj code a).1.At, (Bj code a).1.Op, (Bj code a).1.A, (Bj code a).1.B⟩ : AA) = (Bj code a).1 from rfl, t1, Am6]
  dsimp only
  by_cases h2 : I2 (off s a) code.length a (C6 (Bj code a).1.Op) = true
  ·rw [h2, A1 (by rfl), A1 rfl]
   exact ⟨_, rfl, t2, t3, fun q => (by cases q), fun _ => t4⟩
  have h2f : I2 (off s a) code.length a (C6 (Bj code a).1.Op) = false := by simpa using h2
  have hS1 := t5 h2f
  rw [h2f, Ay (show ¬ ((!(!false)) = true) by simp), Ay (show ¬ (false = true) by simp)]
  have hfr1 : BJ S1.frames (a : Int) = some f := by
   rw [hS1.fr, A1 (by omega), An4]
   exact hf
  rw [t2, hfr1, Am7, show (⟨e.Classes, e.AP, e.Fn⟩ : AD) = e from rfl, Acf h hfok, Am6]
  by_cases h3 : (D9 e f (Bj code a).1).2 ≠ 0
  ·rw [A1 (by rw [AN]; exact h3), A1 h3]
   exact ⟨_, rfl, rfl, t3, fun q => absurd q h3, fun _ => t4⟩
  have h3' := Classical.not_not.1 h3
  rw [Ay (by rw [AN]; exact h3), Ay h3, size_eq, Ha, Am6, Q2, Am6, RA, t3]
  unfold Li
  by_cases h4 : FV (Bj code a).1.Op = true ∧ (Bj code a).1.A ≥ code.length
  ·rw [A1 h4.1, A1 (by rw [Az]; exact h4.2), A1 h4, A1 (by simp), Am6]
   exact ⟨_, rfl, rfl, rfl, fun q => (by cases q), fun _ => t4⟩
  rw [Ay h4]
  obtain ⟨p, hp, hpm, hpl⟩ : ∃ p : List Int, (if FV (Bj code a).1.Op = true then (if decide ((Bj code a).1.A ≥ (code.length : Int)) = true then (some (Sum.inl ((50 : Int), (⟨e, code, S1.frames, S1.fresh, S1.taken, S1.B2⟩ : AM)) : (Int × AM) ⊕ List Int)) else ((app 17592186044416 ([] : List Int) ([(Bj code a).1.A] : List Int)).bind fun x573 => some (.inr (x573)))) else (some (.inr []))) = some (.inr p) ∧ (∀ x, x ∈ p ↔ FV (Bj code a).1.Op = true ∧ x = (Bj code a).1.A) ∧ p.length ≤ 1 := by
   by_cases hj : FV (Bj code a).1.Op = true
   ·rw [A1 hj, Ay (by rw [Az]; exact fun q => h4 ⟨hj, q⟩), C9 (by simp), Am6]
    exact ⟨_, rfl, fun x => by simp [hj], by simp⟩
   ·rw [Ay hj]
    exact ⟨_, rfl, fun x => by simp [hj], by simp⟩
  rw [hp, Am6]
  dsimp only
  rw [Am6, Cc (n := (a : Int) + (C6 (Bj code a).1.Op : Int)) (by omega) (by omega)]
  by_cases h5 : HF (Bj code a).1.Op = false ∧ (Bj code a).1.At + C6 (Bj code a).1.Op = code.length
  ·rw [A1 (by rw [h5.1]; rfl), A1 (by rw [AG, ← h1'.2.1]; exact h5.2), A1 h5, A1 (by simp), Am6]
   exact ⟨_, rfl, rfl, rfl, fun q => (by cases q), fun _ => t4⟩
  rw [Ay h5, Ay (show ¬ ((CL (Bj code a).1, (0 : Int)).2 ≠ 0) from fun q => q rfl)]
  obtain ⟨p2, hp2, hpm2, hpl2⟩ : ∃ p2 : List Int, (if (!HF (Bj code a).1.Op) = true then (if ((a : Int) + (C6 (Bj code a).1.Op : Int) == (code.length : Int)) = true then (some (Sum.inl ((51 : Int), (⟨e, code, S1.frames, S1.fresh, S1.taken, S1.B2⟩ : AM)) : (Int × AM) ⊕ List Int)) else ((app 17592186044416 p ([(a : Int) + (C6 (Bj code a).1.Op : Int)] : List Int)).bind fun x848 => some (.inr (x848)))) else (some (.inr p))) = some (.inr p2) ∧ (∀ x, x ∈ p2 ↔ x ∈ ints (CL (Bj code a).1)) ∧ p2.length ≤ 2 := by
   have hnm := Wl (i := (Bj code a).1) (U3 (Classical.not_not.1 h1)) (by rw [h1'.2.1]; omega)
   by_cases he : HF (Bj code a).1.Op = true
   ·rw [Ay (by simp [he])]
    refine ⟨_, rfl, fun x => ?_, by omega⟩
    rw [hpm, hnm]
    constructor
    ·exact Or.inl
    ·rintro (q | q)
     ·exact q
     ·rw [he] at q; cases q.1
   ·have he' : HF (Bj code a).1.Op = false := by simpa using he
    rw [A1 (by simp [he']), Ay (by rw [AG, ← h1'.2.1]; exact fun q => h5 ⟨he', q⟩), C9 (by simp; omega), Am6]
    refine ⟨_, rfl, fun x => ?_, by simp; omega⟩
    rw [Anf, hpm, hnm, Ang, h1'.2.1]
    constructor
    ·rintro (q | q)
     ·exact Or.inl q
     ·exact Or.inr ⟨he', q⟩
    ·rintro (q | q)
     ·exact Or.inl q
     ·exact Or.inr q.2
  rw [hp2, Am6]
  dsimp only
  obtain ⟨x1, hx1, hx2⟩ := Ae3 (l := p2) (by omega) (O2 (i := (Bj code a).1) (U3 (Classical.not_not.1 h1)) (by rw [h1'.2.1]; omega)) (fun x => (hpm2 x).symm)
  rw [hx1, Am6, hx2, Am6]
  have happ := Nj h hfok (Bj code a).1 h3'
  have honv : Li (Bj code a).1 code.length = (CL (Bj code a).1, 0) := by unfold Li; rw [Ay h4, Ay h5]
  obtain ⟨_, on2⟩ := UX h1'.2.1 h1'.2.2.2.1 (by omega) (by rw [honv])
  have I1 : MF e code st0 (lay (off s a) a (C6 (Bj code a).1.Op)) := Un I ha (Classical.not_not.1 h1) h2f
  have hx8 : (ints (CL (Bj code a).1)).length ≤ 1048576 := by
   unfold ints CL
   rw [Ana, Am9, Am9]
   split <;> split <;> split <;> simp
  obtain ⟨o, ho1, Hw⟩ := Vs h happ.1 (ints (CL (Bj code a).1)) hx8 (CL (Bj code a).1) 0 _ _ (by rw [List.drop_zero]) I1 on2 hS1
  have hpair : (D9 e f (Bj code a).1) = ((D9 e f (Bj code a).1).1, (0 : Int)) := Prod.ext rfl h3'
  rw [hpair]
  rw [show ((0 : Nat) : Int) = 0 from rfl, t2, t3] at ho1
  dsimp only at ho1 ⊢
  rw [ho1, Am6]
  by_cases hz : (DY e.Classes (D9 e f (Bj code a).1).1 (lay (off s a) a (C6 (Bj code a).1.Op)) (CL (Bj code a).1)).2.1 = 0
  ·rw [A1 hz] at Hw
   obtain ⟨S', rfl, hS'⟩ := Hw
   dsimp only
   rw [hz]
   exact ⟨S', rfl, hS'.env, hS'.code, fun _ => hS', fun q => absurd rfl q⟩
  ·rw [Ay hz] at Hw
   obtain ⟨S', rfl, hw, he1, he2⟩ := Hw
   exact ⟨S', rfl, he1, he2, fun q => absurd q hz, fun _ => hw⟩
 ·rw [A1 (by rw [AG]; omega), W8 hn]
  dsimp only
  rw [A1 (by omega)]
  exact ⟨_, rfl, hS.env, rfl, fun q => (by cases q), fun _ => rfl⟩
theorem J4.off {e : AD} {code : List UInt8} {s : St} {S : AM} (h : J4 e code s S) (a : Nat) : J4 e code (off s a) ⟨S.e, S.code, S.frames, H8 S.fresh (a : Int), S.taken, S.B2⟩ := by
 refine ⟨h.env, h.code, h.fr, h.frn, fun k => ?_, Abm h.OT _, h.taken⟩
 dsimp only
 rw [WI _ _ _ h.OT]
 unfold Proofs.YtfcpkcehecmcpaaGreat.off
 dsimp only
 by_cases hk : k = (a : Int)
 ·rw [A1 hk, hk, An4, DX]
  simp
 ·rw [Ay hk, h.fresh k]
  constructor
  ·rintro ⟨h0, h1⟩
   exact ⟨h0, by rw [upd_ne _ _ (by omega)]; exact h1⟩
  ·rintro ⟨h0, h1⟩
   rw [upd_ne _ _ (by omega)] at h1
   exact ⟨h0, h1⟩
theorem Uo {e : AD} (h : Dg e) {code : List UInt8} (hl : code.length ≤ 4096) {st0 : A3} : ∀ (k : Nat) (s : St) (S : AM) (r : Int × Int × St), Inv e code st0 s → J4 e code s S → Ln e code k s = some r →
  ∃ S', AQ (EG code) (S.e.Classes, S.e.AP, S.e.Fn, S.code, S.B2, S.taken, S.fresh, S.frames, 0) = some (S'.e.Classes, S'.e.AP, S'.e.Fn, S'.code, S'.B2, S'.frames, S'.fresh, S'.taken, r.2.1) ∧ (r.2.1 = 0 → J4 e code r.2.2 S') ∧ (r.2.1 ≠ 0 → S'.B2 = r.1)
 | 0, s, S, r, _, _, hr => by cases hr
 | k + 1, s, S, r, I, hS, hr => by
  unfold Ln at hr
  rcases hq : Hy s code.length with _ | a
  ·rw [hq] at hr
   dsimp only at hr
   cases hr
   have hnil : S.fresh = [] := by
    rcases hfr : S.fresh with _ | ⟨p, l⟩
    ·rfl
    ·have := (hS.fresh p.1).1 ((IW _ _).2 (by rw [hfr]; simp))
     have hd := I.dom p.1.toNat (I.new _ this.2)
     have := P6 hq p.1.toNat (by omega)
     rw [‹0 ≤ p.1 ∧ s.new p.1.toNat = true›.2] at this
     cases this
   refine ⟨S, Bm ?_, fun _ => hS, fun q => absurd rfl q⟩
   unfold EG
   dsimp only
   rw [hnil, Ay (by simp)]
  ·rw [hq] at hr
   dsimp only at hr
   obtain ⟨l1, l2, l3⟩ := LJ hq
   have hmem : (a : Int) ∈ S.fresh.map Prod.fst := (IW _ _).1 ((hS.fresh a).2 ⟨by omega, by rw [An4]; exact l1⟩)
   have hpos : decide ((S.fresh.length : Int) > 0) = true := by
    rw [Az]
    rcases hfr : S.fresh with _ | ⟨p, l⟩
    ·rw [hfr] at hmem; cases hmem
    ·simp
   obtain ⟨m, m1, m2, m3, m4⟩ := Aci S.fresh (code.length : Int)
   have hma : m = (a : Int) := by
    have := m4 _ hmem
    rcases m2 with q | q
    ·omega
    ·obtain ⟨q1, q2⟩ := (hS.fresh m).1 ((IW _ _).2 q)
     rcases Nat.lt_or_ge m.toNat a with q3 | q3
     ·rw [l3 _ q3] at q2; cases q2
     ·omega
   rw [hma] at m1
   obtain ⟨S', v1, v2, v3, v4, v5⟩ := Aa9 h hl I l1 (hS.off a)
   have hb : EG code (S.e.Classes, S.e.AP, S.e.Fn, S.code, S.B2, S.taken, S.fresh, S.frames, 0) = if (CJ e code s a).2.1 ≠ 0 then some (.inr (S'.e.Classes, S'.e.AP, S'.e.Fn, S'.code, S'.B2, S'.frames, S'.fresh, S'.taken, (CJ e code s a).2.1)) else some (.inl (S'.e.Classes, S'.e.AP, S'.e.Fn, S'.code, S'.B2, S'.taken, S'.fresh, S'.frames, (CJ e code s a).2.1)) := by
    unfold EG
    dsimp only
    rw [A1 hpos, m1, Am6]
    unfold Abk
    dsimp only
    rw [Am6, show (⟨(⟨S.e.Classes, S.e.AP, S.e.Fn⟩ : AD), S.code, S.frames, H8 S.fresh (a : Int), S.taken, S.B2⟩ : AM) = ⟨S.e, S.code, S.frames, H8 S.fresh (a : Int), S.taken, S.B2⟩ from rfl, v1, Am6]
    by_cases h0 : (CJ e code s a).2.1 ≠ 0
    ·rw [A1 h0, A1 (by rw [AN]; exact h0)]
    ·rw [Ay h0, Ay (by rw [AN]; exact h0)]
   by_cases h0 : (CJ e code s a).2.1 ≠ 0
   ·rw [A1 h0] at hr hb
    cases hr
    exact ⟨S', Bm hb, fun q => absurd q h0, v5⟩
   ·rw [Ay h0] at hr hb
    have h0' := Classical.not_not.1 h0
    obtain ⟨J, _⟩ := TU h I l1 h0'
    obtain ⟨S2, o1, o2, o3⟩ := Uo h hl k _ S' r J (v4 h0') hr
    rw [h0'] at hb
    exact ⟨S2, by rw [BQ hb]; exact o1, o2, o3⟩
theorem Yj {e : AD} {code : List UInt8} (hl : code.length ≤ 4096) {st0 : A3} {s : St} {S : AM} (I : Inv e code st0 s) (hS : J4 e code s S) (hne : 0 < code.length) : UN S.frames = some ((Ej s code.length).map fun x => x.At) := by
 have hmem : ∀ k : Int, k ∈ S.frames.map Prod.fst ↔ 0 ≤ k ∧ k < code.length ∧ (s.fr k.toNat).isSome = true := by
  intro k
  rw [← IW, hS.fr]
  by_cases h0 : 0 ≤ k
  ·rw [A1 h0]
   constructor
   ·intro q
    refine ⟨h0, ?_, q⟩
    rcases I.dom _ q with q2 | q2 <;> omega
   ·rintro ⟨_, _, q⟩; exact q
  ·rw [Ay h0]
   constructor
   ·intro q; cases q
   ·rintro ⟨q, _⟩; exact absurd q h0
 have hent : ∀ n, ((Ej s n).map fun x => x.At).Pairwise (· < ·) ∧ ∀ k : Int, k ∈ ((Ej s n).map fun x => x.At) ↔ 0 ≤ k ∧ k < n ∧ (s.fr k.toNat).isSome = true := by
  intro n
  induction n with
  | zero =>
   refine ⟨by simp [Ej], fun k => ?_⟩
   simp [Ej]
   omega
  | succ n ih =>
   rw [Pm, Anm]
   rcases hf : s.fr n with _ | f
   ·simp only [List.map_nil, Anq]
    refine ⟨ih.1, fun k => ?_⟩
    rw [ih.2]
    constructor
    ·rintro ⟨q1, q2, q3⟩; exact ⟨q1, by omega, q3⟩
    ·rintro ⟨q1, q2, q3⟩
     refine ⟨q1, ?_, q3⟩
     by_cases hk : k.toNat = n
     ·rw [hk, hf] at q3; cases q3
     ·omega
   ·simp only [List.map_cons, List.map_nil]
    refine ⟨?_, fun k => ?_⟩
    ·rw [Anv]
     refine ⟨ih.1, List.pairwise_singleton _ _, fun x hx y hy => ?_⟩
     rw [Ang] at hy
     have := (ih.2 x).1 hx
     omega
    ·rw [Anf, ih.2, Ang]
     constructor
     ·rintro (⟨q1, q2, q3⟩ | q)
      ·exact ⟨q1, by omega, q3⟩
      ·subst q
       exact ⟨by omega, by omega, by rw [An4, hf]; rfl⟩
     ·rintro ⟨q1, q2, q3⟩
      by_cases hk : k = (n : Int)
      ·exact Or.inr hk
      ·exact Or.inl ⟨q1, by omega, q3⟩
 obtain ⟨he1, he2⟩ := hent code.length
 have hsort : D5 (S.frames.map Prod.fst) = ((Ej s code.length).map fun x => x.At) := KT (Lt hS.frn) he1 fun k => by rw [Mc, hmem, he2]
 have hlen : S.frames.length ≤ 4096 := by
  have h1 := congrArg List.length hsort
  rw [NB, Ana, Ana] at h1
  have := Nc s code.length
  omega
 unfold UN
 rw [A1, hsort]
 rw [An6, Az, List.all_eq_true]
 refine ⟨by omega, fun p hp => ?_⟩
 have := (hmem p.1).1 (List.mem_map.2 ⟨p, hp, rfl⟩)
 rw [An6, Az, Az]
 omega
theorem MU {s : St} {n : Nat} : ∀ x ∈ Ej s n, x.Dead = false ∧ 0 ≤ x.At ∧ x.At < n ∧ s.fr x.At.toNat = some x.Frame := by
 intro x hx
 unfold Ej at hx
 rw [List.mem_filterMap] at hx
 obtain ⟨a, ha, hx⟩ := hx
 rw [Option.map_eq_some_iff] at hx
 obtain ⟨f, hf, rfl⟩ := hx
 rw [Anj] at ha
 exact ⟨rfl, by dsimp only; omega, by dsimp only; omega, by dsimp only; rw [An4]; exact hf⟩
theorem WL {e : AD} {code : List UInt8} (hl : code.length ≤ 4096) {s : St} {S : AM} (hS : J4 e code s S) : AQ (Fz S ((Ej s code.length).map fun x => x.At)) (([] : List B0), 0) = some (Ej s code.length) := by
 have hlen := Nc s code.length
 have := Nk (Ej s code.length) id (body := Fz S ((Ej s code.length).map fun x => x.At)) (fun i hi acc ha => by
  unfold Fz
  dsimp only
  obtain ⟨q1, q2, q3, q4⟩ := MU _ (Anl hi)
  rw [Ana, A1 (by rw [Az]; omega), show idx ((Ej s code.length).map fun x => x.At) (i : Int) = some ((Ej s code.length)[i].At) from by rw [Bv (by rw [Ana]; exact hi), List.getElem_map], Am6, hS.fr, A1 q2, q4, Am7, C9 (by simp; omega), Am6, CU (by omega)]
  have : (⟨(Ej s code.length)[i].At, false, ⟨(Ej s code.length)[i].Frame.Locals, (Ej s code.length)[i].Frame.Height, (Ej s code.length)[i].Frame.Slots⟩⟩ : B0) = (Ej s code.length)[i] := by
   generalize (Ej s code.length)[i] = x at *
   obtain ⟨A, D, F⟩ := x
   dsimp only at q1
   rw [q1]
  rw [this]
  rfl) (fun acc => by
  unfold Fz
  dsimp only
  rw [Ana, Ay (by rw [Az]; omega)])
 rw [List.map_id] at this
 exact this
end Go.Proofs.YtfcpkcehecmcpaaGreat
namespace Go.Proofs.YtfcpkcehecmcpaaGreat
open Go Go.RowKit Go.Pv
structure ZL (e : AD) (L : Int) (code : List UInt8) (l : List B0) : Prop where
 env : Dg e
 few : code.length ≤ 4096
 pos : 0 < code.length
 ex : ∃ s st0, Agw e.Classes (JH e).B5 L st0 ∧ Inv e code st0 s ∧ (∀ b, s.new b = false) ∧ l = Ej s code.length
theorem XK (e : AD) (code : List UInt8) (f : A3) (w : Int) : J4 e code (st1 f) ⟨e, code, C7 [] 0 f, C7 [] 0 (), [], w⟩ := by
 refine ⟨rfl, rfl, fun k => ?_, by simp [C7], fun k => ?_, by simp [C7], fun b x => ?_⟩
 ·unfold st1
  dsimp only
  rw [JA]
  by_cases hk : k = 0
  ·rw [A1 hk, A1 (by omega), A1 (by omega)]
  ·rw [Ay hk]
   by_cases h0 : 0 ≤ k
   ·rw [A1 h0, Ay (by omega)]; rfl
   ·rw [Ay h0]; rfl
 ·unfold st1
  dsimp only
  rw [JA]
  by_cases hk : k = 0
  ·rw [A1 hk, hk]; simp
  ·rw [Ay hk]
   constructor
   ·intro q; cases q
   ·rintro ⟨q1, q2⟩
    rw [Az] at q2
    omega
 ·unfold st1
  dsimp only
  constructor
  ·intro q; cases q
  ·rintro ⟨y, _, q, _⟩; omega
theorem SH {α : Type} {n : Nat} {x : α} {a : Nat} (h : a ≤ n) : (List.replicate (n + 1) x)[a]? = some x := by
 rw [Am8 (by rw [List.length_replicate]; omega), List.getElem_replicate]
theorem Afn (n : Nat) (f : A3) : I9 n (st1 f) ⟨(List.replicate (n + 1) false).set 0 true, (List.replicate (n + 1) zf).set 0 f, (List.replicate (n + 1) false).set 0 true, List.replicate (n + 1) 0⟩ := by
 unfold st1
 refine ⟨⟨by simp, fun a ha => ?_⟩, ⟨by simp, fun a ha g hg => ?_⟩, ⟨by simp, fun a ha => ?_⟩, ⟨by simp, fun a ha => ?_⟩⟩
 ·dsimp only
  rw [Me (n := n) (by simp) (by omega)]
  by_cases h : a = 0
  ·rw [A1 h, A1 h]; rfl
  ·rw [Ay h, Ay h, SH ha]; rfl
 ·dsimp only at *
  rw [Me (n := n) (by simp) (by omega)]
  by_cases h : a = 0
  ·rw [A1 h]
   rw [A1 h] at hg
   exact hg
  ·rw [Ay h] at hg; cases hg
 ·dsimp only
  rw [Me (n := n) (by simp) (by omega)]
  by_cases h : a = 0
  ·rw [A1 h, decide_eq_true h]
  ·rw [Ay h, decide_eq_false h, SH ha]
 ·dsimp only
  rw [SH ha]; rfl
theorem RU {α : Type} {b : Nat} {n : Nat} {x : α} (hn : n ≤ 4097) (hb : b ≤ 64) : Jj b (n : Int) x = some (List.replicate n x) := by
 unfold Jj
 rw [A1, An4]
 refine ⟨by omega, ?_, by omega⟩
 have : (b : Int) * (n : Int) ≤ 64 * 4097 := Int.mul_le_mul (by omega) (by omega) (by omega) (by omega)
 omega
theorem WJ (e : AD) (L : Int) (code : List UInt8) (h : FB e.Classes) : ∃ r, IU e L code = some r ∧ K3 e L code = some r ∧ (r.2.2 = 0 → r.2.1 = 0 ∧ ZL e L code r.1) := by
 obtain ⟨m, hm⟩ := Acy e L h
 have hm1 : KF e L = some m := by rw [Ad1 e L h, hm]
 unfold IU K4 K3
 rw [show (⟨e.Classes, e.AP, e.Fn⟩ : AD) = e from rfl, hm, hm1, Am6, Am6]
 by_cases h0 : m ≠ 0
 ·rw [A1 (by rw [AN]; exact h0), A1 (by rw [AN]; exact h0), Am6]
  dsimp only
  rw [A1 (by rw [AN]; exact h0)]
  exact ⟨_, rfl, rfl, fun q => absurd q h0⟩
 have c0 : (m != 0) = false := by rw [← Bool.not_eq_true, AN]; exact h0
 simp only [c0, Bool.false_eq_true, if_false]
 have hm0 := Classical.not_not.1 h0
 subst hm0
 obtain ⟨hE, s0, f0, hs0, hf0⟩ := Adx e L h hm
 by_cases hl : (code.length : Int) > 4096
 ·have c1 : decide ((code.length : Int) > 4096) = true := decide_eq_true hl
  simp only [c1, if_true, Am6]
  rw [A1 (by simp)]
  exact ⟨_, rfl, rfl, fun q => (by cases q)⟩
 have c1 : decide ((code.length : Int) > 4096) = false := decide_eq_false hl
 simp only [c1, Bool.false_eq_true, if_false]
 have hl' : code.length ≤ 4096 := by omega
 have hfn := hE.fn
 have hs0' : s0 = JH e := by
  have : idx e.AP e.Fn = some (JH e) := Fc hfn.1 hfn.2 ⟨[], 0⟩
  rw [hs0] at this
  exact Option.some.inj this
 subst hs0'
 obtain ⟨r0, hr0, hB⟩ := TF e.Classes (JH e).B5 L
 rw [hf0] at hr0
 have hr0' := Option.some.inj hr0
 rw [← hr0'] at hB
 have hB' := hB rfl
 dsimp only at hB'
 rw [hs0, Am6, start_eq, hf0, Am6]
 rw [show wr ((code.length : Int) + 1) = ((code.length + 1 : Nat) : Int) from CU (by omega)]
 have hi : ∀ {α : Type} (x : α), idx (List.replicate (code.length + 1) x) 0 = some x := fun x => Gd (a := 0) (SH (by omega))
 rw [RU (by omega) (by omega), Am6, RU (by omega) (by omega), Am6, Am6, RU (by omega) (by omega), Am6, Am6, hf0, Am6, hi, Am6, hi, Am6, Am6]
 dsimp only
 rw [show (⟨f0.Locals, f0.Height, f0.Slots⟩ : A3) = f0 from rfl]
 have hI := Zv hE (code := code) hB'.fok
 obtain ⟨r, hr, hrok⟩ := Cu hE (mu e.Classes code.length (st1 f0) + 1) (st1 f0) hI (by omega)
 obtain ⟨S', p1, p2, p3⟩ := Uo hE hl' _ (st1 f0) _ r hI (XK e code f0 0) hr
 obtain ⟨o, q1, q2⟩ := ZJ hE hl' _ (st1 f0) _ r hI (Afn code.length f0) hr
 have hleast : OP (st1 f0) code.length = 0 := by
  unfold OP
  rcases hq : Hy (st1 f0) code.length with _ | a
  ·have := P6 hq 0 (by omega)
   unfold st1 at this
   simp at this
  ·have := (LJ hq).1
   unfold st1 at this
   dsimp only at this ⊢
   rw [Az] at this
   omega
 rw [hleast] at q1
 dsimp only at p1 q1
 rw [p1, Am6]
 rw [show ((0 : Int).toNat) = 0 from rfl]
 rw [q1, Am6]
 dsimp only
 by_cases h1 : r.2.1 ≠ 0
 ·rw [Ay h1] at q2
  rw [A1 (by rw [AN]; exact h1), Am6]
  dsimp only
  rw [A1 (by rw [AN]; exact h1), q2, p3 h1]
  exact ⟨_, rfl, rfl, fun q => absurd q h1⟩
 ·have h1' := Classical.not_not.1 h1
  rw [A1 h1'] at q2
  obtain ⟨R', rfl, hR'⟩ := q2
  obtain ⟨_, J, hnew⟩ := hrok h1'
  rw [Ay (by rw [AN]; exact h1), Am6]
  dsimp only
  rw [Ay (by simp), Am6, show (⟨(⟨S'.e.Classes, S'.e.AP, S'.e.Fn⟩ : AD), S'.code, S'.frames, S'.fresh, S'.taken, S'.B2⟩ : AM) = S' from rfl]
  have hS' := p2 h1'
  have hpos : 0 < code.length := by
   obtain ⟨f, hf, _⟩ := J.start
   have D := J.clo 0 f hf (hnew 0)
   exact (IB D.ins).1
  rw [Yj hl' J hS' hpos, Am6, WL hl' hS', Am6, Afd hl' hR', Am6]
  exact ⟨_, rfl, rfl, fun _ => ⟨rfl, hE, hl', hpos, r.2.2, f0, hB', J, hnew, rfl⟩⟩
end Go.Proofs.YtfcpkcehecmcpaaGreat
namespace Go.Proofs.YtfcpkcehecmcpaaGreat
open Go Go.RowKit Go.Pv
def Ai0 (c : A9) : Prop := c.Fields.length ≤ ED
structure Cf (m : AH) : Prop where
 cl : m.Classes.length ≤ ED
 fl : m.Funcs.length ≤ ED
 tl : m.Ec.length ≤ ED
 c : ∀ x ∈ m.Classes, Ai0 x
 f : ∀ x ∈ m.Funcs, Akd x
 t : ∀ x ∈ m.Ec, x.length ≤ ED
theorem Ajd (l : List B1) (h : l.length ≤ ED) : De l = some l := by
 unfold De
 rw [C9 (by simp only [ED] at h; simp; omega)]; simp
theorem Cf.tab {m : AH} (h : Cf m) : FB m.Classes := ⟨h.cl, fun x hx => h.c x hx⟩
def Gt (m : AH) (fn : Int) : AD := ⟨m.Classes, m.Funcs.map (·.Sig), fn⟩
theorem VR (m : AH) (h : Cf m) (fn : Int) : N5 m fn = some (if 0 ≤ fn ∧ fn < m.Funcs.length then (Gt m fn, true) else (⟨[], [], 0⟩, false)) := by
 have hcl := h.cl
 have hfl := h.fl
 simp only [ED] at hcl hfl
 unfold N5
 by_cases h0 : fn < 0
 ·rw [A1 (by rw [Az]; exact h0), Ay (by omega)]
 ·rw [Ay (by rw [Az]; exact h0)]
  by_cases h1 : fn ≥ (m.Funcs.length : Int)
  ·rw [A1 (by rw [Az]; exact h1), Ay (by omega)]
  ·rw [Ay (by rw [Az]; exact h1), A1 (by omega), Nk m.Classes id (fun i hi acc ha => by
    unfold Jv
    dsimp only
    rw [A1 (by rw [Az]; omega), Bv hi, Am6, Ajd _ (h.c _ (Anl hi)), Am6, C9 (by simp; omega), Am6, CU (by omega)]
    rfl) (fun acc => by unfold Jv; simp), Am6, Nk m.Funcs (·.Sig) (fun i hi acc ha => by
    unfold Jy
    dsimp only
    rw [A1 (by rw [Az]; omega), Bv hi, Am6, Aj8 _ (h.f _ (Anl hi)).1, Am6, C9 (by simp; omega), Am6, CU (by omega)]) (fun acc => by unfold Jy; simp), Am6, List.map_id]
   rfl
theorem Ait (m : AH) (h : Cf m) (fn : Int) : LR m fn = some (if 0 ≤ fn ∧ fn < m.Funcs.length then (Gt m fn, true) else (⟨[], [], 0⟩, false)) := by
 have hfl := h.fl
 simp only [ED] at hfl
 unfold LR
 by_cases h0 : fn < 0
 ·rw [A1 (by rw [Az]; exact h0), Ay (by omega)]
 ·rw [Ay (by rw [Az]; exact h0)]
  by_cases h1 : fn ≥ (m.Funcs.length : Int)
  ·rw [A1 (by rw [Az]; exact h1), Ay (by omega)]
  ·rw [Ay (by rw [Az]; exact h1), A1 (by omega), Nk m.Funcs (·.Sig) (fun i hi acc ha => by
    unfold JX
    dsimp only
    rw [A1 (by rw [Az]; omega), Bv hi, Am6, C9 (by simp; omega), Am6, CU (by omega)]) (fun acc => by unfold JX; simp), Am6]
   rfl
def Uc (code : List UInt8) (l : List B0) : List AA := l.map fun x => (Bj code x.At.toNat).1
def Agn (l : List B0) : Int := l.foldl (fun s x => if s < x.Frame.Height then x.Frame.Height else s) 0
def CG (m : AH) (fn : Int) : Df := (m.Funcs[fn.toNat]?).getD ⟨[], ⟨[], 0⟩, 0, []⟩
structure UD (m : AH) (fn : Int) (l : List AA) : Prop where
 rng : 0 ≤ fn ∧ fn < m.Funcs.length
 ex : ∃ es, ZL (Gt m fn) (CG m fn).Locals (CG m fn).Code es ∧ l = Uc (CG m fn).Code es
theorem Afg (m : AH) (h : Cf m) (fn : Int) : ∃ r, MD m fn = some r ∧ E9 m fn = some ((if r.2.2.2 = 0 then some (⟨r.1, r.2.1⟩ : AK) else none), r.2.2.1, r.2.2.2) ∧ (r.2.2.2 = 0 → r.2.2.1 = 0 ∧ UD m fn r.1) ∧ (r.2.2.2 ≠ 0 → r.2.1 = 0) := by
 unfold MD E9
 rw [show (⟨m.Name, m.Classes, m.Funcs, m.Ec⟩ : AH) = m from rfl, VR m h, Ait m h, Am6, Am6]
 by_cases hfn : 0 ≤ fn ∧ fn < m.Funcs.length
 ·rw [A1 hfn]
  dsimp only
  have hx : idx m.Funcs fn = some (CG m fn) := Fc hfn.1 hfn.2 _
  have hmem : CG m fn ∈ m.Funcs := Qw (by omega) rfl
  have hcode := (h.f _ hmem).2
  simp only [ED] at hcode
  have c0 : ((!true) = true) = False := by simp
  simp only [c0, if_false, hx, Am6]
  rw [show (⟨(Gt m fn).Classes, (Gt m fn).AP, (Gt m fn).Fn⟩ : AD) = Gt m fn from rfl]
  obtain ⟨r, h1, h2, h3⟩ := WJ (Gt m fn) (CG m fn).Locals (CG m fn).Code h.tab
  rw [h1, h2, Am6, Am6]
  by_cases h0 : r.2.2 = 0
  ·have c1 : ((r.2.2 != 0) = true) = False := by rw [h0]; simp
   simp only [c1, if_false]
   obtain ⟨h4, h5⟩ := h3 h0
   obtain ⟨s, st0, hB, J, hnew, hl⟩ := h5.ex
   have hlen := Nc s (CG m fn).Code.length
   have h6 := h5.few
   rw [← hl] at hlen
   have hdec : ∀ x ∈ r.1, EO (CG m fn).Code x.At = some ((Bj (CG m fn).Code x.At.toNat)) ∧ Ed (CG m fn).Code x.At = some ((Bj (CG m fn).Code x.At.toNat)) := by
    intro x hx
    rw [hl] at hx
    obtain ⟨_, q1, q2, _⟩ := MU x hx
    obtain ⟨k, hk⟩ := An5 q1
    rw [hk, An4]
    exact OE (by simp only [ED]; omega) (by omega)
   have key : ∀ (body : List AA × Int × Int → Option ((List AA × Int × Int) ⊕ (List AA × Int))),
     (∀ i (hi : i < r.1.length) a b, a.length = i → body (a, b, (i : Int)) = some (.inl (a ++ [(Bj (CG m fn).Code (r.1[i]).At.toNat).1], (if b < (r.1[i]).Frame.Height then (r.1[i]).Frame.Height else b), ((i + 1 : Nat) : Int)))) → (∀ a b, body (a, b, (r.1.length : Int)) = some (.inr (a, b))) →
     AQ body ([], 0, 0) = some (Uc (CG m fn).Code r.1, Agn r.1) := by
    intro body hs he
    refine GE r.1.length (fun i => (Uc (CG m fn).Code (r.1.take i), Agn (r.1.take i), (i : Int))) (fun i hi => ?_) (by rw [An3]; exact he _ _) rfl
    rw [hs i hi _ _ (by unfold Uc; rw [Ana, Ane]; omega), ← Ant hi]
    congr 2
    refine Prod.ext ?_ (Prod.ext ?_ rfl)
    ·unfold Uc
     rw [Anm]; rfl
    ·unfold Agn
     rw [List.foldl_append]; rfl
   rw [key (Cy (CG m fn) r) (fun i hi a b ha => by
     unfold Cy
     dsimp only
     rw [A1 (by rw [Az]; omega), Bv hi, Am6, (hdec _ (Anl hi)).2, Am6, C9 (by simp; omega), Am6, CU (by omega)]) (fun a b => by
     unfold Cy
     dsimp only
     rw [Ay (by rw [Az]; omega)]),
    key (FW (CG m fn) r) (fun i hi a b ha => by
     unfold FW
     dsimp only
     rw [A1 (by rw [Az]; omega), Bv hi, Am6, (hdec _ (Anl hi)).1, Am6, C9 (by simp; omega), Am6, Am6, Am6, CU (by omega)]
     by_cases hb : r.1[i].Frame.Height > b
     ·rw [A1 (by rw [Az]; exact hb), A1 (by omega)]
     ·rw [Ay (by rw [Az]; exact hb), Ay (by omega)]) (fun a b => by
     unfold FW
     dsimp only
     rw [Ay (by rw [Az]; omega)]), Am6, Am6]
   exact ⟨_, rfl, rfl, fun _ => ⟨rfl, hfn, r.1, h5, rfl⟩, fun q => absurd rfl q⟩
  ·have c1 : ((r.2.2 != 0) = true) = True := eq_true (AN.2 h0)
   simp only [c1, if_true]
   refine ⟨_, rfl, ?_, fun q => absurd q h0, fun _ => rfl⟩
   dsimp only
   rw [Ay h0]
 ·rw [Ay hfn]
  dsimp only
  have c0 : ((!false) = true) = True := by simp
  simp only [c0, if_true]
  refine ⟨_, rfl, ?_, fun q => (by cases q), fun _ => rfl⟩
  dsimp only
  rw [Ay (by omega)]
end Go.Proofs.YtfcpkcehecmcpaaGreat
namespace Go.Proofs.YtfcpkcehecmcpaaGreat
open Go Go.RowKit Go.Pv
structure PL (n nf : Nat) (l : List AA) : Prop where
 strict : (l.map fun x => x.At).Pairwise (· < ·)
 ins : ∀ x ∈ l, 0 ≤ x.At ∧ x.At + C6 x.Op ≤ n ∧ 0 < C6 x.Op ∧ x.Op.toNat < 34 ∧ (FV x.Op = true → 0 ≤ x.A ∧ x.A < n) ∧ (Li x n).2 = 0
 call : ∀ x ∈ l, x.Op.toNat = 21 → 0 ≤ x.A ∧ x.A < nf
 nx : ∀ x ∈ l, ∀ t ∈ CL x, ∃ y ∈ l, y.At = (t : Int)
 few : n ≤ 4096
 zero : ∃ x ∈ l, x.At = 0
theorem Qy {s : St} {n a : Nat} {f : A3} (ha : a < n) (hf : s.fr a = some f) : (⟨(a : Int), false, f⟩ : B0) ∈ Ej s n := by
 unfold Ej
 rw [List.mem_filterMap]
 exact ⟨a, List.mem_range.2 ha, by rw [hf]; rfl⟩
theorem P3 (s : St) : ∀ n : Nat, ((Ej s n).map fun x => x.At).Pairwise (· < ·)
 | 0 => by simp [Ej]
 | n + 1 => by
  rw [Pm, Anm]
  rcases hf : s.fr n with _ | f
  ·simp only [List.map_nil, Anq]; exact P3 s n
  ·simp only [List.map_cons, List.map_nil]
   rw [Anv]
   refine ⟨P3 s n, List.pairwise_singleton _ _, fun x hx y hy => ?_⟩
   rw [Ang] at hy
   obtain ⟨z, hz, rfl⟩ := List.mem_map.1 hx
   have := MU z hz
   omega
theorem Aiu {m : AH} {fn : Int} {l : List AA} (h : UD m fn l) : PL (CG m fn).Code.length m.Funcs.length l := by
 obtain ⟨es, hI, rfl⟩ := h.ex
 obtain ⟨s, st0, hB, J, hnew, rfl⟩ := hI.ex
 have D : ∀ x ∈ Ej s (CG m fn).Code.length, Ajz (Gt m fn) (CG m fn).Code s x.At.toNat x.Frame ∧ 0 ≤ x.At ∧ GR (Gt m fn).Classes x.Frame := by
  intro x hx
  obtain ⟨_, q1, q2, q3⟩ := MU x hx
  exact ⟨J.clo _ _ q3 (hnew _), q1, J.fok _ _ q3⟩
 unfold Uc
 refine ⟨?_, fun x hx => ?_, fun x hx h21 => ?_, fun x hx t ht => ?_, hI.few, ?_⟩
 ·rw [List.map_map]
  have : (Ej s (CG m fn).Code.length).map ((fun x : AA => x.At) ∘ fun x : B0 => (Bj (CG m fn).Code x.At.toNat).1) = (Ej s (CG m fn).Code.length).map fun x => x.At := by
   refine List.map_congr_left fun x hx => ?_
   obtain ⟨d, q1, _⟩ := D x hx
   have := (IB d.ins).2.1
   dsimp only [Function.comp]
   rw [this]
   omega
  rw [this]
  exact P3 s _
 ·obtain ⟨y, hy, rfl⟩ := List.mem_map.1 hx
  obtain ⟨d, q1, q2⟩ := D y hy
  obtain ⟨i1, i2, i3, i4, i5⟩ := IB d.ins
  have ha := Nj hI.env q2 _ d.app
  refine ⟨by omega, by omega, i3, ha.2.1, fun hj => ⟨U3 d.ins hj, ?_⟩, d.on⟩
  have hon := d.on
  unfold Li at hon
  by_cases hq : FV (Bj (CG m fn).Code y.At.toNat).1.Op = true ∧ (Bj (CG m fn).Code y.At.toNat).1.A ≥ (CG m fn).Code.length
  ·rw [A1 hq] at hon; cases hon
  ·have : ¬ (Bj (CG m fn).Code y.At.toNat).1.A ≥ (CG m fn).Code.length := fun q => hq ⟨hj, q⟩
   omega
 ·obtain ⟨y, hy, rfl⟩ := List.mem_map.1 hx
  obtain ⟨d, q1, q2⟩ := D y hy
  have ha := (Nj hI.env q2 _ d.app).2.2
  unfold CX at ha
  rw [A1 h21] at ha
  have hl : (Gt m fn).AP.length = m.Funcs.length := Ana _
  rw [hl] at ha
  by_cases hq : 0 ≤ (Bj (CG m fn).Code y.At.toNat).1.A ∧ (Bj (CG m fn).Code y.At.toNat).1.A < m.Funcs.length
  ·exact hq
  ·rw [Ay hq] at ha; cases ha
 ·obtain ⟨y, hy, rfl⟩ := List.mem_map.1 hx
  obtain ⟨d, q1, q2⟩ := D y hy
  obtain ⟨i1, i2, i3, i4, i5⟩ := IB d.ins
  obtain ⟨g, g1, g2⟩ := d.nx t ht
  have htn := (UX i2 i4 hI.pos d.on).2 t ht
  refine ⟨_, List.mem_map.2 ⟨_, Qy htn g1, rfl⟩, ?_⟩
  have D2 := (D _ (Qy htn g1)).1
  have := (IB D2.ins).2.1
  dsimp only at this ⊢
  rw [this, An4]
 ·obtain ⟨f, hf, _⟩ := J.start
  refine ⟨_, List.mem_map.2 ⟨_, Qy hI.pos hf, rfl⟩, ?_⟩
  have D2 := (D _ (Qy hI.pos hf)).1
  have := (IB D2.ins).2.1
  dsimp only at this ⊢
  rw [this]
  rfl
theorem Q7 : ∀ {l : List Int} {a n : Int}, l.Pairwise (· < ·) → (∀ x ∈ l, a ≤ x ∧ x < n) → a ≤ n → (l.length : Int) ≤ n - a
 | [], a, n, _, _, h => by simp; omega
 | x :: l, a, n, hs, hm, h => by
  rw [An0] at hs
  have hx := hm x (by simp)
  have := Q7 (l := l) (a := x + 1) (n := n) hs.2 (fun y hy => ⟨by have := hs.1 y hy; omega, (hm y (by simp [hy])).2⟩) (by omega)
  rw [Ans]
  omega
theorem PL.len {n nf : Nat} {l : List AA} (h : PL n nf l) : l.length ≤ 4096 := by
 have := Q7 (a := 0) (n := n) h.strict (fun x hx => by
  obtain ⟨y, hy, rfl⟩ := List.mem_map.1 hx
  have := h.ins y hy
  omega) (by omega)
 rw [Ana] at this
 have := h.few
 omega
def Jx (l : List AA) : List Int := (l.filter fun x => decide (x.Op.toNat = 21)).map fun x => x.A
theorem P4 {l : List AA} {c : Int} : c ∈ Jx l ↔ ∃ x ∈ l, x.Op.toNat = 21 ∧ x.A = c := by
 unfold Jx
 rw [Ank]
 constructor
 ·rintro ⟨x, hx, rfl⟩
  rw [Ani, Az] at hx
  exact ⟨x, hx.1, hx.2, rfl⟩
 ·rintro ⟨x, h1, h2, rfl⟩
  exact ⟨x, by rw [Ani, Az]; exact ⟨h1, h2⟩, rfl⟩
theorem Tf (l : List AA) : (Jx l).length ≤ l.length := by
 unfold Jx
 rw [Ana]
 exact Anx _ _
def Mq (nf : Nat) (l : List AA) : List Int := ints ((List.range nf).filter fun g => l.any fun x => decide (x.Op.toNat = 21) && x.A == (g : Int))
theorem Q4 {nf : Nat} {l : List AA} (h : ∀ x ∈ l, x.Op.toNat = 21 → 0 ≤ x.A ∧ x.A < nf) (c : Int) : c ∈ Mq nf l ↔ c ∈ Jx l := by
 unfold Mq ints
 rw [P4, Ank]
 constructor
 ·rintro ⟨g, hg, rfl⟩
  rw [Ani, List.any_eq_true] at hg
  obtain ⟨_, x, hx, hx2⟩ := hg
  rw [An6, Az, AG] at hx2
  exact ⟨x, hx, hx2⟩
 ·rintro ⟨x, hx, h1, rfl⟩
  have := h x hx h1
  refine ⟨x.A.toNat, ?_, by omega⟩
  rw [Ani, List.any_eq_true, Anj]
  refine ⟨by omega, x, hx, ?_⟩
  rw [An6, Az, AG]
  exact ⟨h1, by omega⟩
theorem NU (p : Nat → Bool) : ∀ n : Nat, (ints ((List.range n).filter p)).Pairwise (· < ·)
 | 0 => by simp [ints]
 | n + 1 => by
  unfold ints at *
  rw [Anp, Ann, Anm, Anv]
  have ih := NU p n
  unfold ints at ih
  refine ⟨ih, ?_, fun x hx y hy => ?_⟩
  ·rw [Ano]
   split <;> simp
  ·obtain ⟨a, ha, rfl⟩ := List.mem_map.1 hx
   obtain ⟨b, hb, rfl⟩ := List.mem_map.1 hy
   rw [Ani, Anj] at ha
   rw [Ani, Ang] at hb
   omega
theorem Xc (nf : Nat) (l : List AA) : (Mq nf l).Pairwise (· < ·) := NU _ nf
theorem WH {n nf : Nat} {l : List AA} (h : PL n nf l) (k : Int) : Fj ⟨l, k⟩ = some (Mq nf l) := by
 have hlen := h.len
 unfold Fj
 have h1 : AQ (Eo ⟨l, k⟩) (([] : List Int), 0) = some (Jx l) := by
  refine GE l.length (fun i => (Jx (l.take i), (i : Int))) (fun i hi => ?_) (by unfold Eo; simp) rfl
  have hcl := Tf (l.take i)
  rw [Ane] at hcl
  have hsucc : Jx (l.take (i + 1)) = Jx (l.take i) ++ (if l[i].Op.toNat = 21 then [l[i].A] else []) := by
   unfold Jx
   rw [← Ant hi, Ann, Anm]
   congr 1
   by_cases q : l[i].Op.toNat = 21
   ·rw [A1 q, Ano, A1 (by rw [Az]; exact q)]; rfl
   ·rw [Ay q, Ano, Ay (by rw [Az]; exact q)]; rfl
  unfold Eo
  dsimp only
  rw [A1 (by rw [Az]; omega), Bv hi, Am6, hsucc, CU (by omega)]
  by_cases q : l[i].Op.toNat = 21
  ·rw [A1 (by rw [q]; rfl), A1 q, C9 (by simp; omega), Am6]
  ·rw [Ay (by rw [AG]; omega), Ay q, Anq]
 rw [h1, Am6]
 obtain ⟨r, r1, r2, r3⟩ := PI (Jx l) (by have := Tf l; omega)
 obtain ⟨x, x1, x2⟩ := Option.bind_eq_some_iff.1 r1
 rw [x1, Am6, x2, Am6]
 congr 1
 exact KT r2 (Xc nf l) fun a => (r3 a).trans (Q4 h.call a).symm
end Go.Proofs.YtfcpkcehecmcpaaGreat
namespace Go.Proofs.YtfcpkcehecmcpaaGreat
open Go Go.RowKit Go.Pv
theorem PL.uniq {n nf : Nat} {l : List AA} (h : PL n nf l) {i j : Nat} (hi : i < l.length) (hj : j < l.length) (he : l[i].At = l[j].At) : i = j := by
 have hs := List.pairwise_iff_getElem.1 h.strict
 rcases Nat.lt_trichotomy i j with q | q | q
 ·have := hs i j (by rw [Ana]; exact hi) (by rw [Ana]; exact hj) q
  rw [List.getElem_map, List.getElem_map] at this
  omega
 ·exact q
 ·have := hs j i (by rw [Ana]; exact hj) (by rw [Ana]; exact hi) q
  rw [List.getElem_map, List.getElem_map] at this
  omega
def NT (l : List AA) (t : Int) : Nat := l.findIdx fun y => y.At == t
theorem Qi {l : List AA} {t : Int} (h : ∃ y ∈ l, y.At = t) : ∃ hp : NT l t < l.length, l[NT l t].At = t := by
 obtain ⟨y, hy, he⟩ := h
 have hp : NT l t < l.length := List.findIdx_lt_length_of_exists ⟨y, hy, by rw [AG]; exact he⟩
 refine ⟨hp, ?_⟩
 have := List.findIdx_getElem (p := fun y : AA => y.At == t) (w := hp)
 rw [AG] at this
 exact this
theorem Pd {n nf : Nat} {l : List AA} (h : PL n nf l) (k : Int) {t : Int} (ht : ∃ y ∈ l, y.At = t) : Dc ⟨l, k⟩ t = some (NT l t : Int) := by
 have hlen := h.len
 obtain ⟨hp, he⟩ := Qi ht
 unfold Dc Ct
 dsimp only
 rcases NM (R := Int ⊕ Unit) l.length (body := Bt l t) (fun i => if h : i < l.length then (if l[i].At = t then some (.inl (i : Int)) else none) else none) (r0 := .inr ()) (fun i hi => by
   unfold Bt HA
   rw [A1 (by rw [Az]; omega), Bv hi, Am6, Am6, CU (by omega), dif_pos hi]
   by_cases q : l[i].At = t
   ·rw [A1 (by rw [AG]; exact q), A1 q]
   ·rw [Ay (by rw [AG]; exact q), Ay q]) (by
   unfold Bt
   rw [Ay (by rw [Az]; omega)]) l.length 0 (by omega) with ⟨r, ⟨j, _, hj, hP⟩, hl⟩ | ⟨hn, _⟩
 ·rw [dif_pos hj] at hP
  by_cases q : l[j].At = t
  ·rw [A1 q] at hP
   cases hP
   rw [show ((0 : Nat) : Int) = 0 from rfl] at hl
   rw [hl, Am6]
   dsimp only
   rw [Am6, h.uniq hp hj (he.trans q.symm)]
  ·rw [Ay q] at hP; cases hP
 ·have := hn (NT l t) (by omega) hp
  rw [dif_pos hp, A1 he] at this
  cases this
theorem Qz {n nf : Nat} {l : List AA} (h : PL n nf l) {x : AA} (hx : x ∈ l) : Gm x = some (ints (CL x)) := by
 obtain ⟨a1, a2, a3, a4, a5, a6⟩ := h.ins x hx
 have hfew := h.few
 have hm := Wl (i := x) (fun q => (a5 q).1) a1
 have hst := O2 (i := x) (fun q => (a5 q).1) a1
 unfold Gm
 rw [show (⟨x.At, x.Op, x.A, x.B⟩ : AA) = x from rfl, size_eq, Ha, Am6, Ay (by rw [AG]; omega)]
 have hpl : Lv x = some true := by
  unfold Lv
  rw [A1 (by rw [Az]; omega), decide_eq_true (by omega)]
 have hri : ∀ (mp : List (Int × Int)), mp.length ≤ 2 → (mp.map Prod.fst).Nodup → (∀ c, c ∈ mp.map Prod.fst ↔ (FV x.Op = true ∧ c = x.A) ∨ (HF x.Op = false ∧ c = x.At + C6 x.Op)) → EJ mp = some (ints (CL x)) := by
  intro mp h1 h2 h3
  unfold EJ
  rw [A1 (by omega), KT (Lt h2) hst fun c => by rw [Mc, h3, hm]]
 rw [hpl, Am6, Ay (by simp), RA, Am6, Am6, Q2, Am6, Am6, Cc (n := x.At + (C6 x.Op : Int)) (by omega) (by omega)]
 have nd1 : ((C7 ([] : List (Int × Int)) (x.At + (C6 x.Op : Int)) 1).map Prod.fst).Nodup := by simp [C7]
 rcases he : HF x.Op with _ | _
 ·rw [A1 (by rfl)]
  rcases hj : FV x.Op with _ | _
  ·rw [Ay (by simp), hri _ (by simp [C7]) nd1 (fun c => by simp [C7, he, hj]), Am6]
  ·rw [A1 rfl, hri _ (Nat.le_trans (Afi _ _ _) (by simp [C7])) (MI nd1 _ _) (fun c => by
    rw [← IW, JA, JA]
    by_cases q1 : c = x.A
    ·simp [q1, he, hj]
    ·rw [Ay q1]
     by_cases q2 : c = x.At + (C6 x.Op : Int)
     ·simp [q2, he, hj]
     ·simp [q1, q2, he, hj, BJ]), Am6]
 ·rw [Ay (by simp)]
  rcases hj : FV x.Op with _ | _
  ·rw [Ay (by simp), hri [] (by simp) (by simp) (fun c => by simp [he, hj]), Am6]
  ·rw [A1 rfl, hri _ (by simp [C7]) (by simp [C7]) (fun c => by simp [C7, he, hj]), Am6]
def HJ (l : List AA) (i : Nat) : List Nat := match l[i]? with
 | none => []
 | some x => (CL x).map fun (t : Nat) => NT l (t : Int)
theorem JJ {l : List AA} {i : Nat} (hi : i < l.length) : HJ l i = (CL l[i]).map fun (t : Nat) => NT l (t : Int) := by
 unfold HJ
 rw [Am8 hi]
theorem OX (x : AA) : (CL x).length ≤ 3 := by
 unfold CL
 rw [Am9, Am9]
 split <;> split <;> split <;> simp
theorem Ah4 (l : List AA) (i : Nat) : (HJ l i).length ≤ 3 := by
 unfold HJ
 split
 ·simp
 ·rw [Ana]; exact OX _
theorem QW {n nf : Nat} {l : List AA} (h : PL n nf l) {i : Nat} : ∀ j ∈ HJ l i, j < l.length := by
 intro j hj
 unfold HJ at hj
 rcases hx : l[i]? with _ | x
 ·rw [hx] at hj; cases hj
 ·rw [hx] at hj
  obtain ⟨t, ht, rfl⟩ := List.mem_map.1 hj
  exact (Qi (h.nx x (Anw hx) t ht)).1
theorem RI {n nf : Nat} {l : List AA} (h : PL n nf l) (i : Nat) : (HJ l i).Nodup := by
 unfold HJ
 rcases hx : l[i]? with _ | x
 ·exact List.nodup_nil
 ·have hmem := Anw hx
  obtain ⟨a1, a2, a3, a4, a5, a6⟩ := h.ins x hmem
  have hst := O2 (i := x) (fun q => (a5 q).1) a1
  unfold ints at hst
  rw [List.pairwise_map] at hst
  dsimp only
  rw [List.nodup_iff_pairwise_ne, List.pairwise_map]
  refine List.Pairwise.imp_of_mem (fun ha hb hab => ?_) hst
  rename_i a b
  intro heq
  obtain ⟨p1, p2⟩ := Qi (h.nx x hmem a ha)
  obtain ⟨q1, q2⟩ := Qi (h.nx x hmem b hb)
  have : l[NT l (a : Int)].At = l[NT l (b : Int)].At := by congr 1; simp only [heq]
  rw [p2, q2] at this
  omega
end Go.Proofs.YtfcpkcehecmcpaaGreat
namespace Go.Proofs.YtfcpkcehecmcpaaGreat
open Go Go.RowKit Go.Pv
inductive Zz (n : Nat) (sc : Nat → List Nat) : Nat → Prop
 | mk (j : Nat) (hj : j < n) (h : ∀ i, i < n → j ∈ sc i → Zz n sc i) : Zz n sc j
def XL (sc : Nat → List Nat) (D : List Nat) (j i : Nat) : Nat := if i ∈ D then 0 else if j ∈ sc i then 1 else 0
def dg (n : Nat) (sc : Nat → List Nat) (D : List Nat) (j : Nat) : Nat := FU n (XL sc D j)
structure Qr (n : Nat) (sc : Nat → List Nat) (D O : List Nat) (g : Nat → Int) : Prop where
 nd : (D ++ O).Nodup
 lt : ∀ x ∈ D ++ O, x < n
 cnt : ∀ j, j < n → g j = (dg n sc D j : Int)
 zero : ∀ j, j < n → (g j = 0 ↔ j ∈ D ++ O)
 z : ∀ j ∈ D ++ O, Zz n sc j
theorem Wi {F : Nat → Nat} : ∀ {n : Nat}, FU n F = 0 ↔ ∀ i, i < n → F i = 0
 | 0 => by simp [FU]
 | n + 1 => by
  have ih := Wi (F := F) (n := n)
  simp only [FU]
  constructor
  ·intro h i hi
   by_cases q : i = n
   ·subst q; omega
   ·exact ih.1 (by omega) i (by omega)
  ·intro h
   have := ih.2 fun i hi => h i (by omega)
   have := h n (by omega)
   omega
theorem Qx {F G : Nat → Nat} : ∀ {n : Nat}, (∀ i, i < n → F i = G i) → FU n F = FU n G
 | 0, _ => rfl
 | n + 1, h => by
  simp only [FU]
  rw [Qx (n := n) fun i hi => h i (by omega), h n (by omega)]
theorem Aac {F G : Nat → Nat} {x c : Nat} : ∀ {n : Nat}, x < n → (∀ i, i < n → i ≠ x → F i = G i) → F x = G x + c → FU n F = FU n G + c
 | n + 1, hx, h, hc => by
  simp only [FU]
  by_cases q : x = n
  ·subst q
   rw [Qx (n := x) (F := F) (G := G) fun i hi => h i (by omega) (by omega), hc]
   omega
  ·rw [Aac (n := n) (x := x) (c := c) (by omega) (fun i hi => h i (by omega)) hc, h n (by omega) (by omega)]
   omega
theorem SA {n : Nat} {sc : Nat → List Nat} {D : List Nat} {j : Nat} : dg n sc D j = 0 ↔ ∀ i, i < n → j ∈ sc i → i ∈ D := by
 unfold dg
 rw [Wi]
 unfold XL
 constructor
 ·intro h i hi hj
  have := h i hi
  by_cases q : i ∈ D
  ·exact q
  ·rw [Ay q, A1 hj] at this; cases this
 ·intro h i hi
  by_cases q : i ∈ D
  ·rw [A1 q]
  ·rw [Ay q, Ay (fun q2 => q (h i hi q2))]
theorem Qr.step {n : Nat} {sc : Nat → List Nat} {D O : List Nat} {g : Nat → Int} (K : Qr n sc D O g) (hnd : ∀ i, (sc i).Nodup) (hlt : ∀ i, ∀ j ∈ sc i, j < n) {x : Nat} {O' : List Nat} (hp : O.Perm (x :: O')) :
  Qr n sc (D ++ [x]) (O' ++ (sc x).filter fun j => decide (g j = 1)) (fun j => g j - if j ∈ sc x then 1 else 0) := by
 have hxO : x ∈ O := hp.mem_iff.2 (by simp)
 have hx := K.lt x (by simp [hxO])
 have hnd0 := K.nd
 rw [List.nodup_append] at hnd0
 obtain ⟨n1, n2, n3⟩ := hnd0
 have hxD : x ∉ D := fun q => n3 x q x hxO rfl
 have hO' : ∀ y, y ∈ O ↔ y = x ∨ y ∈ O' := fun y => by rw [hp.mem_iff, Anh]
 have hcons : (x :: O').Nodup := hp.nodup_iff.1 n2
 rw [List.nodup_cons] at hcons
 have hg1 : ∀ j, j ∈ sc x → 1 ≤ g j := by
  intro j hj
  have hj' := hlt x j hj
  rw [K.cnt j hj']
  have : dg n sc D j ≠ 0 := fun q => hxD (SA.1 q x hx hj)
  omega
 have hcnt : ∀ j, j < n → g j - (if j ∈ sc x then 1 else 0) = (dg n sc (D ++ [x]) j : Int) := by
  intro j hj
  have : dg n sc D j = dg n sc (D ++ [x]) j + (if j ∈ sc x then 1 else 0) := by
   unfold dg
   refine Aac hx (fun i hi hne => ?_) ?_
   ·unfold XL
    by_cases q : i ∈ D
    ·rw [A1 q, A1 (show i ∈ D ++ [x] by simp [q])]
    ·rw [Ay q, Ay (show ¬ i ∈ D ++ [x] by simp [q, hne])]
   ·unfold XL
    rw [Ay hxD, A1 (show x ∈ D ++ [x] by simp)]
    omega
  rw [K.cnt j hj, this]
  split <;> omega
 have hz : ∀ j, j < n → (g j - (if j ∈ sc x then 1 else 0) = 0 ↔ j ∈ (D ++ [x]) ++ (O' ++ (sc x).filter fun j => decide (g j = 1))) := by
  intro j hj
  have hz0 := K.zero j hj
  rw [Anf] at hz0
  rw [Anf, Anf, Anf, Ang, Ani, Az]
  by_cases q : j ∈ sc x
  ·have := hg1 j q
   rw [A1 q]
   constructor
   ·intro h
    exact Or.inr (Or.inr ⟨q, by omega⟩)
   ·rintro ((h | h) | h | h)
    ·have := hz0.2 (Or.inl h); omega
    ·subst h
     have := hz0.2 (Or.inr hxO); omega
    ·have := hz0.2 (Or.inr ((hO' j).2 (Or.inr h))); omega
    ·omega
  ·rw [Ay q]
   constructor
   ·intro h
    rcases hz0.1 (by omega) with h | h
    ·exact Or.inl (Or.inl h)
    ·rcases (hO' j).1 h with h | h
     ·exact Or.inl (Or.inr h)
     ·exact Or.inr (Or.inl h)
   ·rintro ((h | h) | h | h)
    ·have := hz0.2 (Or.inl h); omega
    ·subst h
     have := hz0.2 (Or.inr hxO); omega
    ·have := hz0.2 (Or.inr ((hO' j).2 (Or.inr h))); omega
    ·exact absurd h.1 q
 have hold : ∀ j, j ∈ (D ++ [x]) ++ O' ↔ j ∈ D ++ O := by
  intro j
  rw [Anf, Anf, Anf, Ang, hO']
  constructor
  ·rintro ((h | h) | h)
   ·exact Or.inl h
   ·exact Or.inr (Or.inl h)
   ·exact Or.inr (Or.inr h)
  ·rintro (h | h | h)
   ·exact Or.inl (Or.inl h)
   ·exact Or.inl (Or.inr h)
   ·exact Or.inr h
 refine ⟨?_, fun y hy => ?_, hcnt, hz, fun y hy => ?_⟩
 ·rw [← Anu, List.nodup_append]
  refine ⟨?_, (hnd x).filter _, fun a ha b hb hab => ?_⟩
  ·rw [Anu, List.nodup_append]
   refine ⟨n1, ?_, fun a ha b hb hab => ?_⟩
   ·rw [List.singleton_append, List.nodup_cons]; exact hcons
   ·rw [List.singleton_append, Anh, ← hO'] at hb
    exact n3 a ha b hb hab
  ·subst hab
   rw [Ani, Az] at hb
   have := (K.zero a (hlt x a hb.1)).2 ((hold a).1 ha)
   omega
 ·rw [← Anu, Anf] at hy
  rcases hy with h | h
  ·exact K.lt y ((hold y).1 h)
  ·rw [Ani] at h
   exact hlt x y h.1
 ·have hy' := hy
  rw [← Anu, Anf] at hy
  rcases hy with h | h
  ·exact K.z y ((hold y).1 h)
  ·rw [Ani] at h
   have hyn := hlt x y h.1
   have h0 := (hz y hyn).2 hy'
   rw [hcnt y hyn] at h0
   refine Zz.mk y hyn fun i hi hji => ?_
   have := SA.1 (show dg n sc (D ++ [x]) y = 0 by omega) i hi hji
   rw [Anf, Ang] at this
   rcases this with q | q
   ·exact K.z i (by simp [q])
   ·subst q
    exact K.z i (by simp [hxO])
theorem Qr.fin {n : Nat} {sc : Nat → List Nat} {D : List Nat} {g : Nat → Int} (K : Qr n sc D [] g) (j : Nat) : j ∈ D ↔ Zz n sc j := by
 constructor
 ·intro h
  exact K.z j (by simp [h])
 ·intro h
  induction h with
  | mk j hj h ih =>
   have : g j = 0 := by
    rw [K.cnt j hj]
    have : dg n sc D j = 0 := SA.2 fun i hi hji => ih i hi hji
    omega
   have := (K.zero j hj).1 this
   rw [Anq] at this
   exact this
theorem Q3 {l : List Nat} (h : l.Nodup) : (ints l).Nodup := by
 unfold ints
 rw [List.nodup_iff_pairwise_ne, List.pairwise_map]
 rw [List.nodup_iff_pairwise_ne] at h
 exact h.imp fun hab q => hab (by omega)
theorem Aez {l m : List Nat} (hl : l.Nodup) (hm : m.Nodup) (h : ∀ j, j ∈ l ↔ j ∈ m) : l.length = m.length := by
 have := KT (Lt (Q3 hl)) (Lt (Q3 hm)) fun a => by
  rw [Mc, Mc]
  unfold ints
  rw [Ank, Ank]
  constructor
  ·rintro ⟨j, hj, rfl⟩; exact ⟨j, (h j).1 hj, rfl⟩
  ·rintro ⟨j, hj, rfl⟩; exact ⟨j, (h j).2 hj, rfl⟩
 have := congrArg List.length this
 rw [NB, NB] at this
 unfold ints at this
 rw [Ana, Ana] at this
 exact this
theorem Xv {l : List Nat} {n : Nat} (hl : l.Nodup) (h : ∀ x ∈ l, x < n) : l.length ≤ n := by
 have := Q7 (a := 0) (n := n) (Lt (Q3 hl)) (fun x hx => by
  rw [Mc] at hx
  unfold ints at hx
  obtain ⟨j, hj, rfl⟩ := List.mem_map.1 hx
  have := h j hj
  omega) (by omega)
 rw [NB] at this
 unfold ints at this
 rw [Ana] at this
 omega
def Kd (L : List Int) (n : Nat) (g : Nat → Int) : Prop := L.length = n ∧ ∀ j, j < n → L[j]? = some (g j)
theorem Kd.set {L : List Int} {n : Nat} {g : Nat → Int} (h : Kd L n g) {k : Nat} (hk : k < n) (x : Int) : Kd (L.set k x) n (fun j => if j = k then x else g j) := by
 refine ⟨by rw [Anc]; exact h.1, fun j hj => ?_⟩
 rw [List.getElem?_set]
 dsimp only
 by_cases q : k = j
 ·rw [A1 q, A1 (by rw [h.1]; exact hk), A1 q.symm]
 ·rw [Ay q, Ay (fun q2 => q q2.symm)]
  exact h.2 j hj
theorem Kd.congr {L : List Int} {n : Nat} {g g' : Nat → Int} (h : Kd L n g) (he : ∀ j, j < n → g j = g' j) : Kd L n g' := ⟨h.1, fun j hj => by rw [h.2 j hj, he j hj]⟩
theorem Afu {n : Nat} (sc : List Nat) (hnd : sc.Nodup) (hlt : ∀ j ∈ sc, j < n) {body : List Int × Int → Option ((List Int × Int) ⊕ List Int)} {g : Nat → Int} (hg : ∀ j, j < n → 0 ≤ g j ∧ g j ≤ 1000000)
  (hs : ∀ (r : Nat) (hr : r < sc.length) (L : List Int) (x : Int), L.length = n → L[sc[r]]? = some x → body (L, (r : Int)) = some (.inl (L.set sc[r] (wr (x + 1)), ((r + 1 : Nat) : Int)))) (he : ∀ L, body (L, (sc.length : Int)) = some (.inr L)) {L : List Int} (hL : Kd L n g) :
  ∃ L', AQ body (L, 0) = some L' ∧ Kd L' n (fun j => g j + if j ∈ sc then 1 else 0) := by
 obtain ⟨r, h1, h2⟩ := Qa sc.length (body := body) (fun i s => s.2 = (i : Int) ∧ Kd s.1 n (fun j => g j + if j ∈ sc.take i then 1 else 0)) (Post := fun L' => Kd L' n (fun j => g j + if j ∈ sc then 1 else 0)) (fun i s hi hI => by
  obtain ⟨L1, k⟩ := s
  obtain ⟨q1, q2⟩ := hI
  dsimp only at q1 q2
  subst q1
  have hsi := hlt _ (Anl hi)
  have hmem : ∀ j, j ∈ sc.take (i + 1) ↔ j ∈ sc.take i ∨ j = sc[i] := fun j => by rw [← Ant hi, Anf, Ang]
  have hnot : sc[i] ∉ sc.take i := by
   intro hm
   obtain ⟨j, hj, he⟩ := List.mem_iff_getElem.1 hm
   rw [Ane] at hj
   rw [An2] at he
   have := (List.pairwise_iff_getElem.1 (List.nodup_iff_pairwise_ne.1 hnd)) j i (by omega) hi (by omega)
   exact this he
  have hget := q2.2 _ hsi
  dsimp only at hget
  rw [Ay hnot] at hget
  have hb := hg _ hsi
  refine Or.inl ⟨_, hs i hi L1 _ q2.1 hget, rfl, ?_⟩
  rw [Cc (by omega) (by omega)]
  refine (q2.set hsi _).congr fun j hj => ?_
  by_cases q : j = sc[i]
  ·rw [A1 q, q, A1 ((hmem _).2 (Or.inr rfl))]
   omega
  ·rw [Ay q]
   by_cases q3 : j ∈ sc.take i
   ·rw [A1 q3, A1 ((hmem _).2 (Or.inl q3))]
   ·rw [Ay q3, Ay (fun q5 => ((hmem _).1 q5).elim q3 q)]) (fun s hI => by
  obtain ⟨L1, k⟩ := s
  obtain ⟨q1, q2⟩ := hI
  dsimp only at q1 q2
  subst q1
  rw [An3] at q2
  exact ⟨_, he L1, q2⟩) sc.length 0 (L, 0) (by omega) ⟨rfl, hL.congr fun j hj => by simp⟩
 exact ⟨r, h1, h2⟩
theorem Afe {n : Nat} (sc : List Nat) (hnd : sc.Nodup) (hlt : ∀ j ∈ sc, j < n) (h3 : sc.length ≤ 3) {body : List Int × List Int × Int → Option ((List Int × List Int × Int) ⊕ (List Int × List Int))} {g : Nat → Int} (hg : ∀ j, j < n → 0 ≤ g j ∧ g j ≤ 1000000)
  (hs : ∀ (r : Nat) (hr : r < sc.length) (L O : List Int) (x : Int), L.length = n → O.length ≤ 10000 → L[sc[r]]? = some x → body (L, O, (r : Int)) = some (.inl (L.set sc[r] (wr (x - 1)), (if wr (x - 1) = 0 then O ++ [(sc[r] : Int)] else O), ((r + 1 : Nat) : Int)))) (he : ∀ L O, body (L, O, (sc.length : Int)) = some (.inr (L, O))) {L O : List Int} (hL : Kd L n g) (hO : O.length ≤ 8000) :
  ∃ L', AQ body (L, O, 0) = some (L', O ++ ints (sc.filter fun j => decide (g j = 1))) ∧ Kd L' n (fun j => g j - if j ∈ sc then 1 else 0) := by
 obtain ⟨r, h1, h2⟩ := Qa sc.length (body := body) (fun i s => s.2.2 = (i : Int) ∧ Kd s.1 n (fun j => g j - if j ∈ sc.take i then 1 else 0) ∧ s.2.1 = O ++ ints ((sc.take i).filter fun j => decide (g j = 1))) (Post := fun p => Kd p.1 n (fun j => g j - if j ∈ sc then 1 else 0) ∧ p.2 = O ++ ints (sc.filter fun j => decide (g j = 1))) (fun i s hi hI => by
  obtain ⟨L1, O1, k⟩ := s
  obtain ⟨q1, q2, q4⟩ := hI
  dsimp only at q1 q2 q4
  subst q1
  subst q4
  have hsi := hlt _ (Anl hi)
  have hmem : ∀ j, j ∈ sc.take (i + 1) ↔ j ∈ sc.take i ∨ j = sc[i] := fun j => by rw [← Ant hi, Anf, Ang]
  have hnot : sc[i] ∉ sc.take i := by
   intro hm
   obtain ⟨j, hj, he⟩ := List.mem_iff_getElem.1 hm
   rw [Ane] at hj
   rw [An2] at he
   have := (List.pairwise_iff_getElem.1 (List.nodup_iff_pairwise_ne.1 hnd)) j i (by omega) hi (by omega)
   exact this he
  have hget := q2.2 _ hsi
  dsimp only at hget
  rw [Ay hnot] at hget
  have hb := hg _ hsi
  have hOl : (O ++ ints ((sc.take i).filter fun j => decide (g j = 1))).length ≤ 10000 := by
   rw [Am9]
   unfold ints
   rw [Ana]
   have := Anx (fun j => decide (g j = 1)) (sc.take i)
   rw [Ane] at this
   omega
  refine Or.inl ⟨_, hs i hi L1 _ _ q2.1 hOl hget, rfl, ?_, ?_⟩
  ·rw [Cc (by omega) (by omega)]
   refine (q2.set hsi _).congr fun j hj => ?_
   by_cases q : j = sc[i]
   ·rw [A1 q, q, A1 ((hmem _).2 (Or.inr rfl))]
    omega
   ·rw [Ay q]
    by_cases q3 : j ∈ sc.take i
    ·rw [A1 q3, A1 ((hmem _).2 (Or.inl q3))]
    ·rw [Ay q3, Ay (fun q5 => ((hmem _).1 q5).elim q3 q)]
  ·rw [Cc (by omega) (by omega)]
   dsimp only
   rw [← Ant hi, Ann, Ano]
   by_cases q : g sc[i] = 1
   ·rw [A1 (by omega), A1 (by rw [Az]; exact q)]
    unfold ints
    rw [Anm, Anu]
    rfl
   ·rw [Ay (by omega), Ay (by rw [Az]; exact q), List.filter_nil, Anq]) (fun s hI => by
  obtain ⟨L1, O1, k⟩ := s
  obtain ⟨q1, q2, q4⟩ := hI
  dsimp only at q1 q2 q4
  subst q1
  rw [An3] at q2 q4
  exact ⟨_, he L1 O1, q2, q4⟩) sc.length 0 (L, O, 0) (by omega) ⟨rfl, hL.congr fun j hj => by simp, by simp [ints]⟩
 obtain ⟨L', O'⟩ := r
 dsimp only at h2
 rw [h2.2] at h1
 exact ⟨L', h1, h2.1⟩
end Go.Proofs.YtfcpkcehecmcpaaGreat
namespace Go.Proofs.YtfcpkcehecmcpaaGreat
open Go Go.RowKit Go.Pv
def TC (sc : Nat → List Nat) (j i : Nat) : Nat := if j ∈ sc i then 1 else 0
theorem Acb (sc : Nat → List Nat) (j : Nat) : ∀ i, FU i (TC sc j) ≤ i
 | 0 => Nat.le_refl _
 | i + 1 => by
  have := Acb sc j i
  simp only [FU]
  unfold TC at *
  split <;> omega
theorem Ajm (n : Nat) (sc : Nat → List Nat) (j : Nat) : FU n (TC sc j) = dg n sc [] j := by
 unfold dg
 refine Qx fun i _ => ?_
 unfold TC XL
 rw [Ay (show ¬ i ∈ ([] : List Nat) by simp)]
theorem Aie {n : Nat} (h : n ≤ 4096) : Jj 8 (n : Int) (0 : Int) = some (List.replicate n 0) := RU (by omega) (by omega)
theorem Alv (n : Nat) (sc : Nat → List Nat) : Kd (List.replicate n 0) n (fun j => (FU 0 (TC sc j) : Int)) := by
 refine ⟨by simp, fun j hj => ?_⟩
 rw [Am8 (by simpa using hj), List.getElem_replicate]
 rfl
theorem Aa6 {n nf k : Nat} {l : List AA} (h : PL n nf l) (hk : k = l.length) {body : List Int × Int → Option ((List Int × Int) ⊕ List Int)}
  (hs : ∀ (i : Nat) (hi : i < l.length) (L : List Int) (g : Nat → Int), (∀ j, j < l.length → 0 ≤ g j ∧ g j ≤ 1000000) → Kd L l.length g → ∃ L', body (L, (i : Int)) = some (.inl (L', ((i + 1 : Nat) : Int))) ∧ Kd L' l.length (fun j => g j + if j ∈ HJ l i then 1 else 0)) (he : ∀ L, body (L, (l.length : Int)) = some (.inr L)) :
  ∃ L, AQ body (List.replicate k 0, 0) = some L ∧ Kd L l.length (fun j => (dg l.length (HJ l) [] j : Int)) := by
 subst hk
 have hlen := h.len
 obtain ⟨r, h1, h2⟩ := Qa l.length (body := body) (fun i s => s.2 = (i : Int) ∧ Kd s.1 l.length (fun j => (FU i (TC (HJ l) j) : Int))) (Post := fun L => Kd L l.length (fun j => (dg l.length (HJ l) [] j : Int))) (fun i s hi hI => by
  obtain ⟨L1, q⟩ := s
  obtain ⟨q1, q2⟩ := hI
  dsimp only at q1 q2
  subst q1
  obtain ⟨L', b1, b2⟩ := hs i hi L1 _ (fun j _ => ⟨by omega, by have := Acb (HJ l) j i; omega⟩) q2
  refine Or.inl ⟨_, b1, rfl, b2.congr fun j hj => ?_⟩
  simp only [FU]
  unfold TC
  split <;> omega) (fun s hI => by
  obtain ⟨L1, q⟩ := s
  obtain ⟨q1, q2⟩ := hI
  dsimp only at q1 q2
  subst q1
  exact ⟨_, he L1, q2.congr fun j _ => by rw [Ajm]⟩) l.length 0 (List.replicate l.length 0, 0) (by omega) ⟨rfl, Alv _ _⟩
 exact ⟨r, h1, h2⟩
def NZ (n : Nat) (g : Nat → Int) : List Nat := (List.range n).filter fun i => decide (g i = 0)
theorem Adr {n : Nat} (hn : n ≤ 4096) {g : Nat → Int} {L : List Int} (hL : Kd L n g) {body : List Int × Int → Option ((List Int × Int) ⊕ List Int)}
  (hs : ∀ (i : Nat) (hi : i < n) (acc : List Int) (x : Int), L[i]? = some x → acc.length ≤ 10000 → body (acc, (i : Int)) = some (.inl ((if x = 0 then acc ++ [(i : Int)] else acc), ((i + 1 : Nat) : Int)))) (he : ∀ acc, body (acc, (n : Int)) = some (.inr acc)) : AQ body ([], 0) = some (ints (NZ n g)) := by
 refine GE n (fun i => (ints (NZ i g), (i : Int))) (fun i hi => ?_) (he _) rfl
 have hlen : (ints (NZ i g)).length ≤ i := by
  unfold ints NZ
  rw [Ana]
  exact Nat.le_trans (Anx _ _) (by rw [Anz]; exact Nat.le_refl _)
 rw [hs i hi _ _ (hL.2 i hi) (by omega)]
 congr 2
 refine Prod.ext ?_ rfl
 dsimp only
 unfold NZ ints
 rw [Anp, Ann, Anm, Ano]
 by_cases q : g i = 0
 ·rw [A1 q, A1 (by rw [Az]; exact q)]; rfl
 ·rw [Ay q, Ay (by rw [Az]; exact q), List.filter_nil, List.map_nil, Anq]
theorem Akv (n : Nat) (sc : Nat → List Nat) : Qr n sc [] (NZ n fun j => (dg n sc [] j : Int)) (fun j => (dg n sc [] j : Int)) := by
 have hm : ∀ j, j ∈ NZ n (fun j => (dg n sc [] j : Int)) ↔ j < n ∧ dg n sc [] j = 0 := by
  intro j
  unfold NZ
  rw [Ani, Anj, Az]
  dsimp only
  constructor
  ·rintro ⟨a, b⟩; exact ⟨a, by omega⟩
  ·rintro ⟨a, b⟩; exact ⟨a, by omega⟩
 refine ⟨?_, fun x hx => ?_, fun j hj => rfl, fun j hj => ?_, fun j hj => ?_⟩
 ·rw [Anr]
  exact List.nodup_range.filter _
 ·rw [Anr, hm] at hx
  exact hx.1
 ·rw [Anr, hm]
  constructor
  ·intro q; exact ⟨hj, by omega⟩
  ·rintro ⟨_, q⟩; omega
 ·rw [Anr, hm] at hj
  exact Zz.mk j hj.1 fun i hi hji => by
   have := SA.1 hj.2 i hi hji
   cases this
theorem Ak7 (n : Nat) (sc : Nat → List Nat) (D : List Nat) (j : Nat) : dg n sc D j ≤ n := by
 have := Qm (F := XL sc D j) (k := 1) (n := n) fun i _ => by
  unfold XL
  split
  ·omega
  ·split <;> omega
 unfold dg
 omega
theorem Qr.small {n : Nat} {sc : Nat → List Nat} {D O : List Nat} {g : Nat → Int} (K : Qr n sc D O g) (hn : n ≤ 4096) : (∀ j, j < n → 0 ≤ g j ∧ g j ≤ 1000000) ∧ D.length + O.length ≤ n := by
 constructor
 ·intro j hj
  rw [K.cnt j hj]
  have := Ak7 n sc D j
  omega
 ·have := Xv K.nd K.lt
  rw [Am9] at this
  exact this
theorem Aaw {n nf : Nat} {l : List AA} (h : PL n nf l) {body : List Int × Int × List Int → Option ((List Int × Int × List Int) ⊕ Int)}
  (hs : ∀ (L : List Int) (d : Nat) (O' : List Nat) (x : Nat) (g : Nat → Int), d ≤ 10000 → (O'.length) ≤ 7000 → x < l.length → (∀ j, j < l.length → 0 ≤ g j ∧ g j ≤ 1000000) → Kd L l.length g → ∃ L', body (L, (d : Int), ints (O' ++ [x])) = some (.inl (L', ((d + 1 : Nat) : Int), ints (O' ++ (HJ l x).filter fun j => decide (g j = 1)))) ∧ Kd L' l.length (fun j => g j - if j ∈ HJ l x then 1 else 0)) (he : ∀ L (d : Int), body (L, d, []) = some (.inr d)) :
  ∀ (m : Nat) (D O : List Nat) (g : Nat → Int) (L : List Int), l.length ≤ D.length + m → Qr l.length (HJ l) D O g → Kd L l.length g → ∃ D' : List Nat, AQ body (L, (D.length : Int), ints O) = some (D'.length : Int) ∧ D'.Nodup ∧ ∀ j, j ∈ D' ↔ Zz l.length (HJ l) j := by
 have hlen := h.len
 intro m
 induction m with
 | zero =>
  intro D O g L hm K hL
  have hsm := (K.small hlen).2
  have : O = [] := List.length_eq_zero_iff.1 (by omega)
  subst this
  exact ⟨D, Bm (he _ _), by have := K.nd; rwa [Anq] at this, K.fin⟩
 | succ m ih =>
  intro D O g L hm K hL
  obtain ⟨hg, hsm⟩ := K.small hlen
  rcases List.eq_nil_or_concat O with rfl | ⟨O', x, rfl⟩
  ·exact ⟨D, Bm (he _ _), by have := K.nd; rwa [Anq] at this, K.fin⟩
  ·rw [List.concat_eq_append] at *
   rw [Am9, Anb] at hsm
   have hx := K.lt x (by simp)
   obtain ⟨L', b1, b2⟩ := hs L D.length O' x g (by omega) (by omega) hx hg hL
   have K' := K.step (RI h) (fun i => QW h) (x := x) (O' := O') List.perm_append_comm
   obtain ⟨D', c1, c2⟩ := ih (D ++ [x]) _ _ L' (by rw [Am9, Anb]; omega) K' b2
   rw [Am9, Anb] at c1
   exact ⟨D', by rw [BQ b1]; exact c1, c2⟩
theorem TI {l : List Nat} {r : Nat} (hr : r < l.length) : idx (ints l) (r : Int) = some (l[r] : Int) := by
 unfold ints
 rw [Bv (by rw [Ana]; exact hr), List.getElem_map]
theorem IY (l : List Nat) : (ints l).length = l.length := Ana _
theorem Vw {n nf : Nat} {l : List AA} (h : PL n nf l) {i : Nat} (hi : i < l.length) : Gm l[i] = some (ints (CL l[i])) := Qz h (Anl hi)
theorem Sp {n nf : Nat} {l : List AA} (h : PL n nf l) (k : Int) : ∃ D : List Nat, Ex ⟨l, k⟩ = some (decide ((D.length : Int) < l.length)) ∧ D.Nodup ∧ ∀ j, j ∈ D ↔ Zz l.length (HJ l) j := by
 have hlen := h.len
 have hpl : ∀ {i : Nat} (hi : i < l.length) {r : Nat} (hr : r < (CL l[i]).length), Dc ⟨l, k⟩ ((CL l[i])[r] : Int) = some (NT l ((CL l[i])[r] : Int) : Int) := fun {i} hi {r} hr => Pd h k (h.nx _ (Anl hi) _ (Anl hr))
 unfold Ex
 rw [Aie hlen, Am6]
 obtain ⟨L0, l1, l2⟩ := Aa6 h rfl (body := Ep ⟨l, k⟩) (fun i hi L g hg hL => by
  obtain ⟨L', a1, a2⟩ := Afu (HJ l i) (RI h i) (QW h) (body := Em ⟨l, k⟩ (ints (CL l[i]))) hg (fun r hr L x hLl hx => by
   rw [JJ hi, Ana] at hr
   have hsr : (HJ l i)[r]'(by rw [JJ hi, Ana]; exact hr) = NT l ((CL l[i])[r] : Int) := by simp only [JJ hi, List.getElem_map]
   rw [hsr] at hx ⊢
   unfold Em
   dsimp only
   have hn3 := OX l[i]
   rw [IY, A1 (by rw [Az]; omega), TI hr, Am6, hpl hi hr, Am6, Gd hx, Am6, Am6, An4, CU (by omega)]) (fun L => by
   unfold Em
   dsimp only
   rw [IY, JJ hi, Ana, Ay (by rw [Az]; omega)]) hL
  refine ⟨L', ?_, a2⟩
  unfold Ep
  dsimp only
  rw [A1 (by rw [Az]; omega), Bv hi, Am6, show (⟨l[i].At, l[i].Op, l[i].A, l[i].B⟩ : AA) = l[i] from rfl, Vw h hi, Am6, a1, Am6, CU (by omega)]) (fun L => by
  unfold Ep
  dsimp only
  rw [Ay (by rw [Az]; omega)])
 dsimp only
 rw [l1, Am6, Adr hlen l2 (fun i hi acc x hx hacc => by
  unfold EP
  dsimp only
  rw [A1 (by rw [Az, l2.1]; omega), Gd hx, Am6, CU (by omega)]
  by_cases q : x = 0
  ·rw [A1 (by rw [AG]; exact q), A1 q, C9 (by simp; omega), Am6]
  ·rw [Ay (by rw [AG]; exact q), Ay q]) (fun acc => by
  unfold EP
  dsimp only
  rw [Ay (by rw [Az, l2.1]; omega)]), Am6]
 obtain ⟨D, d1, d2⟩ := Aaw h (body := Dz ⟨l, k⟩) (fun L d O' x g hd hO hx hg hL => by
  obtain ⟨L', a1, a2⟩ := Afe (HJ l x) (RI h x) (QW h) (Ah4 l x) (body := Ek ⟨l, k⟩ (ints (CL l[x]))) hg (fun r hr L O y hLl hOl hy => by
   rw [JJ hx, Ana] at hr
   have hsr : (HJ l x)[r]'(by rw [JJ hx, Ana]; exact hr) = NT l ((CL l[x])[r] : Int) := by simp only [JJ hx, List.getElem_map]
   rw [hsr] at hy ⊢
   have hpl2 : NT l ((CL l[x])[r] : Int) < l.length := by rw [← hsr]; exact QW h _ (Anl _)
   unfold Ek
   dsimp only
   have hn3 := OX l[x]
   have hset : idx (L.set (NT l ((CL l[x])[r] : Int)) (wr (y - 1))) (NT l ((CL l[x])[r] : Int) : Int) = some (wr (y - 1)) := Gd (by rw [List.getElem?_set, A1 rfl, A1 (by omega)])
   rw [IY, A1 (by rw [Az]; omega), TI hr, Am6, hpl hx hr, Am6, Gd hy, Am6, Am6, An4, hset, Am6, CU (by omega)]
   by_cases q : wr (y - 1) = 0
   ·rw [A1 (by rw [AG]; exact q), A1 q, C9 (by simp; omega), Am6]
   ·rw [Ay (by rw [AG]; exact q), Ay q]) (fun L O => by
   unfold Ek
   dsimp only
   rw [IY, JJ hx, Ana, Ay (by rw [Az]; omega)]) hL (O := ints O') (by rw [IY]; omega)
  refine ⟨L', ?_, a2⟩
  unfold Dz
  dsimp only
  have e1 : (ints (O' ++ [x])).length = O'.length + 1 := by rw [IY, Am9]; rfl
  have e2 : ints (O' ++ [x]) = ints O' ++ [(x : Int)] := by unfold ints; rw [Anm]; rfl
  rw [e1, A1 (by rw [Az]; omega), show wr (((O'.length + 1 : Nat) : Int) - 1) = (O'.length : Int) from by rw [Cc (by omega) (by omega)]; omega]
  have e3 : idx (ints (O' ++ [x])) (O'.length : Int) = some (x : Int) := by
   rw [TI (by rw [Am9]; simp)]
   simp
  have e4 : GZ (ints (O' ++ [x])) 0 (O'.length : Int) = some (ints O') := by
   rw [LD (by rw [e1]; omega), e2]
   congr 1
   rw [An4, show ((0 : Int).toNat) = 0 from rfl, List.drop_zero, List.take_left' (IY O')]
  rw [e3, Am6, e4, Am6, Bv hx, Am6, Vw h hx, Am6, a1, Am6, CU (by omega)]
  unfold ints
  rw [Anm]) (fun L d => by
  unfold Dz
  dsimp only
  rw [Ay (by simp)]) l.length [] _ _ L0 (by simp) (Akv _ _) l2
 have d1' : AQ (Dz ⟨l, k⟩) (L0, 0, ints (NZ l.length fun j => (dg l.length (HJ l) [] j : Int))) = some (D.length : Int) := d1
 rw [d1', Am6]
 exact ⟨D, rfl, d2⟩
end Go.Proofs.YtfcpkcehecmcpaaGreat
namespace Go.Proofs.YtfcpkcehecmcpaaGreat
open Go Go.RowKit Go.Pv
theorem Abb (nf : Nat) (l : List AA) : (Mq nf l).length ≤ nf := by
 unfold Mq ints
 rw [Ana]
 exact Nat.le_trans (Anx _ _) (by rw [Anz]; exact Nat.le_refl _)
end Go.Proofs.YtfcpkcehecmcpaaGreat
namespace Go.Proofs.YtfcpkcehecmcpaaGreat
open Go Go.RowKit Go.Pv
def VC (n : Nat) (cs : List (List Int)) : Prop := cs.length = n ∧ ∀ c ∈ cs, c.length ≤ n ∧ ∀ x ∈ c, 0 ≤ x ∧ x < n
def QP (met : List Bool) : Nat := (met.filter fun b => !b).length
theorem Adh (met : List Bool) : QP met ≤ met.length := Anx _ _
theorem V0 : ∀ {met : List Bool} {i : Nat}, met[i]? = some false → QP (met.set i true) + 1 = QP met
 | [], i, h => by cases h
 | b :: met, 0, h => by
  rw [List.getElem?_cons_zero] at h
  cases h
  rfl
 | b :: met, i + 1, h => by
  rw [List.getElem?_cons_succ] at h
  have ih := V0 (met := met) (i := i) h
  unfold QP at *
  rw [List.set_cons_succ, Ano, Ano]
  split
  ·rw [Ans, Ans]; omega
  ·exact ih
theorem XO (l : List Int) (hl : l.length ≤ 1048576) (x : Int) : EB l x = some (l.any fun y => x == y) := by
 unfold EB
 obtain ⟨r, h1, h2, _⟩ := KL l (fun y => x == y) (body := Di l x) (fun i hi => by
  unfold Di
  rw [A1 (by rw [Az]; omega), Bv hi, Am6, CU (by omega)]) (by
  unfold Di
  rw [Ay (by rw [Az]; omega)])
 have h1' : HG l x = some r := h1
 rw [h1', Am6, h2]
end Go.Proofs.YtfcpkcehecmcpaaGreat
