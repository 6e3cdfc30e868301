/- The plain law: Alone and Free, of any part. -/
import Derived.Test.YtmeodoidfpcjlaaLka
set_option linter.unusedVariables false
set_option linter.unusedSimpArgs false
namespace Go.Proofs.Ytmeodoidfpcjlaa
open Go Go.RowKit Go.Pv

/-! ### Two loops side by side -/
theorem loop2 {S1 S2 R1 R2 : Type} (n : Nat) {b1 : S1 → Option (S1 ⊕ R1)} {b2 : S2 → Option (S2 ⊕ R2)} (I : Nat → S1 → S2 → Prop) {Post : R1 → R2 → Prop}
    (hs : ∀ i s1 s2, i < n → I i s1 s2 → (∃ s1' s2', b1 s1 = some (.inl s1') ∧ b2 s2 = some (.inl s2') ∧ I (i + 1) s1' s2') ∨ ∃ r1 r2, b1 s1 = some (.inr r1) ∧ b2 s2 = some (.inr r2) ∧ Post r1 r2)
    (he : ∀ s1 s2, I n s1 s2 → ∃ r1 r2, b1 s1 = some (.inr r1) ∧ b2 s2 = some (.inr r2) ∧ Post r1 r2) {s1 : S1} {s2 : S2} (h0 : I 0 s1 s2) : ∃ r1 r2, loopO b1 s1 = some r1 ∧ loopO b2 s2 = some r2 ∧ Post r1 r2 := by
  have key : ∀ k i s1 s2, i + k = n → I i s1 s2 → ∃ r1 r2, loopO b1 s1 = some r1 ∧ loopO b2 s2 = some r2 ∧ Post r1 r2 := by
    intro k
    induction k with
    | zero =>
      intro i s1 s2 hi h
      have : i = n := by omega
      subst this
      obtain ⟨r1, r2, h1, h2, h3⟩ := he s1 s2 h
      exact ⟨r1, r2, loopO_stop h1, loopO_stop h2, h3⟩
    | succ k ih =>
      intro i s1 s2 hi h
      rcases hs i s1 s2 (by omega) h with ⟨s1', s2', h1, h2, h3⟩ | ⟨r1, r2, h1, h2, h3⟩
      · rw [loopO_step h1, loopO_step h2]
        exact ih (i + 1) s1' s2' (by omega) h3
      · exact ⟨r1, r2, loopO_stop h1, loopO_stop h2, h3⟩
  exact key n 0 s1 s2 (by omega) h0

/-! ### Contains, equality of numbers -/
theorem index_from (l : List Int) (n : Int) (hl : l.length ≤ 1000000000) : ∀ (k i : Nat), i + k = l.length → ∃ o, loopO (slices_Index_int_int_b0 l n) (i : Int) = some o ∧ ((n ∈ l.drop i ∧ ∃ j : Nat, o = .inl (j : Int)) ∨ (n ∉ l.drop i ∧ o = .inr ()))
  | 0, i, hi => by
    refine ⟨.inr (), loopO_stop ?_, .inr ⟨by rw [List.drop_of_length_le (by omega)]; simp, rfl⟩⟩
    unfold slices_Index_int_int_b0
    rw [if_neg (by simp; omega)]
  | k + 1, i, hi => by
    have hlt : i < l.length := by omega
    have hd : l.drop i = l[i] :: l.drop (i + 1) := List.drop_eq_getElem_cons hlt
    by_cases hx : n = l[i]
    · refine ⟨.inl (i : Int), loopO_stop ?_, .inl ⟨by rw [hd, hx]; exact List.mem_cons_self, i, rfl⟩⟩
      unfold slices_Index_int_int_b0
      rw [if_pos (by simpa using hlt), idx_at hlt, Option.bind_some, if_pos (by simpa using hx)]
    · obtain ⟨o, h1, h2⟩ := index_from l n hl k (i + 1) (by omega)
      refine ⟨o, ?_, ?_⟩
      · rw [loopO_step (s' := ((i + 1 : Nat) : Int)), h1]
        unfold slices_Index_int_int_b0
        rw [if_pos (by simpa using hlt), idx_at hlt, Option.bind_some, if_neg (by simpa using hx), wr1 (by omega)]
      · rw [hd]
        simp only [List.mem_cons, hx, false_or]
        exact h2
theorem contains_law (l : List Int) (n : Int) (hl : l.length ≤ 1000000000) : slices_Contains_int_int l n = some (decide (n ∈ l)) := by
  unfold slices_Contains_int_int slices_Index_int_int
  obtain ⟨o, h1, h2⟩ := index_from l n hl l.length 0 (by omega)
  rw [show (0 : Int) = ((0 : Nat) : Int) from rfl, h1]
  rw [List.drop_zero] at h2
  rcases h2 with ⟨h2, j, rfl⟩ | ⟨h2, rfl⟩
  · simp [h2]
  · simp [h2]
theorem eqI (l : List Int) (h : l.length ≤ 1000000000) : slices_Equal_int_int l l = some true := by
  unfold slices_Equal_int_int
  rw [if_neg (by simp), loop_none l (r := .inr ()) (fun i hi => by
    unfold slices_Equal_int_int_b0
    rw [if_pos (by simpa using hi), idx_at hi, Option.bind_some, Option.bind_some, if_neg (by simp), wr1 (by omega)]) (by unfold slices_Equal_int_int_b0; simp)]
  rfl

/-! ### A part -/
structure okPart (p : S_api_Part) : Prop where
  m : okModule p.Module
  l : p.Imports.length ≤ big
  s : ∀ x ∈ p.Imports, x.Sig.Params.length ≤ big
theorem part_law (p : S_api_Part) (h : okPart p) : provisolaw18_part p = some p := by
  have hl := h.l
  simp only [big] at hl
  unfold provisolaw18_part
  rw [show (⟨p.Module.Name, p.Module.Classes, p.Module.Funcs, p.Module.Certs⟩ : S_api_Module) = p.Module from rfl, module_law _ h.m, Option.bind_some, loop_map p.Imports id (fun i hi acc ha => by
    unfold provisolaw18_part_b0
    dsimp only
    rw [if_pos (by simpa using hi), idx_at hi, Option.bind_some]
    rw [show (⟨p.Imports[i].Sig.Params, p.Imports[i].Sig.Result⟩ : S_api_Sig) = p.Imports[i].Sig from rfl, sig_law _ (h.s _ (List.getElem_mem hi)), Option.bind_some, app_ok (by simp; omega), Option.bind_some, wr1 (by omega)]
    rfl) (fun acc => by unfold provisolaw18_part_b0; simp), Option.bind_some]
  simp
theorem samePart_law (p : S_api_Part) (h : okPart p) : provisolaw18_samePart p p = some true := by
  have hl := h.l
  simp only [big] at hl
  unfold provisolaw18_samePart
  rw [show (⟨p.Module.Name, p.Module.Classes, p.Module.Funcs, p.Module.Certs⟩ : S_api_Module) = p.Module from rfl, sameModule _ h.m, Option.bind_some, if_neg (by simp), if_neg (by simp), loop_none p.Imports (r := .inr ()) (fun i hi => by
    unfold provisolaw18_samePart_b0
    rw [if_pos (by simpa using hi), idx_at hi]
    simp only [Option.bind_some]
    rw [if_neg (by simp), show (⟨p.Imports[i].Sig.Params, p.Imports[i].Sig.Result⟩ : S_api_Sig) = p.Imports[i].Sig from rfl, sameSig _ (h.s _ (List.getElem_mem hi)), Option.bind_some, if_neg (by simp), wr1 (by omega)]) (by unfold provisolaw18_samePart_b0; simp)]
  rfl
theorem alone_law (m : S_api_Module) (h : okModule m) : link_Alone m = some ⟨⟨m.Name, m.Classes, m.Funcs, []⟩, []⟩ := by
  have hf := h.fl
  have hc := h.cl
  simp only [big] at hf hc
  unfold link_Alone
  rw [loop_map m.Classes id (fun i hi acc ha => by
    unfold link_Alone_b0
    dsimp only
    rw [if_pos (by simpa using hi), idx_at hi, Option.bind_some, cloneF _ (h.c _ (List.getElem_mem hi)), Option.bind_some, app_ok (by simp; omega), Option.bind_some, wr1 (by omega)]
    rfl) (fun acc => by unfold link_Alone_b0; simp), Option.bind_some, loop_map m.Funcs id (fun i hi acc ha => by
    unfold link_Alone_b1
    dsimp only
    rw [if_pos (by simpa using hi), idx_at hi, Option.bind_some, cloneT _ (h.f _ (List.getElem_mem hi)).1, Option.bind_some, cloneB _ (h.f _ (List.getElem_mem hi)).2, Option.bind_some, Option.bind_some, app_ok (by simp; omega), Option.bind_some, wr1 (by omega)]
    rfl) (fun acc => by unfold link_Alone_b1; simp), Option.bind_some]
  simp

/-! ### The marks -/
theorem mark_inner (l0 : List S_api_Func) (n : Nat) (hn : n < l0.length) (hl : l0.length ≤ big) (f : S_api_Func) (hf : f.Code.length ≤ big) (hfl : ∀ g, l0[n]? = some g → g.Code.length = f.Code.length) (s0 : List S_api_Func × Int) (hs0 : s0.2 = (n : Int)) :
    ∃ r, loopO (provisolaw18_LinkFrees_b0 s0 f) (l0, 0) = some r ∧ (r.length = l0.length ∧ ∀ j, j ≠ n → r[j]? = l0[j]?) := by
  simp only [big] at hl hf
  refine loop_inv f.Code.length (fun i s => s.2 = (i : Int) ∧ s.1.length = l0.length ∧ (∀ g, s.1[n]? = some g → g.Code.length = f.Code.length) ∧ ∀ j, j ≠ n → s.1[j]? = l0[j]?) ?_ ?_ ⟨rfl, rfl, hfl, fun _ _ => rfl⟩
  · rintro i ⟨l, k⟩ hi ⟨rfl, h1, h2, h3⟩
    dsimp only at h1 h2 h3 ⊢
    have hnl : n < l.length := by omega
    have hc := h2 _ (List.getElem?_eq_getElem hnl)
    refine ⟨(l.set n ⟨l[n].Name, ⟨l[n].Sig.Params, l[n].Sig.Result⟩, l[n].Locals, l[n].Code.set i 255⟩, ((i + 1 : Nat) : Int)), ?_, rfl, ?_, ?_, ?_⟩
    · unfold provisolaw18_LinkFrees_b0
      dsimp only
      rw [if_pos (by simpa using hi), hs0, idx_at hnl, Option.bind_some, idx_at (by omega), Option.bind_some, wr1 (by omega), Int.toNat_natCast, Int.toNat_natCast]
    · simpa using h1
    · intro g hg
      rw [List.getElem?_set, if_pos rfl, if_pos hnl] at hg
      cases hg
      simpa using hc
    · intro j hj
      rw [List.getElem?_set, if_neg (fun h => hj h.symm)]
      exact h3 j hj
  · rintro ⟨l, k⟩ ⟨rfl, h1, h2, h3⟩
    refine ⟨l, ?_, h1, h3⟩
    unfold provisolaw18_LinkFrees_b0
    rw [if_neg (by simp)]
theorem mark_outer (a : S_api_Part) (hl : a.Module.Funcs.length ≤ big) (hf : ∀ x ∈ a.Module.Funcs, okFunc x) : ∃ r, loopO (provisolaw18_LinkFrees_b1 a) (a.Module.Funcs, 0) = some r ∧ True := by
  have hl' := hl
  simp only [big] at hl'
  refine loop_inv a.Module.Funcs.length (fun i s => s.2 = (i : Int) ∧ s.1.length = a.Module.Funcs.length ∧ ∀ j, i ≤ j → s.1[j]? = a.Module.Funcs[j]?) ?_ ?_ ⟨rfl, rfl, fun _ _ => rfl⟩
  · rintro i ⟨l, k⟩ hi ⟨rfl, h1, h2⟩
    dsimp only at h1 h2 ⊢
    have hil : i < l.length := by omega
    have hfi : okFunc l[i] := by
      have := h2 i (Nat.le_refl _)
      rw [List.getElem?_eq_getElem hil, List.getElem?_eq_getElem hi] at this
      rw [Option.some.inj this]
      exact hf _ (List.getElem_mem hi)
    have hset : l.set i (⟨l[i].Name, (⟨l[i].Sig.Params, l[i].Sig.Result⟩ : S_api_Sig), l[i].Locals, l[i].Code⟩ : S_api_Func) = l := by
      show l.set i l[i] = l
      exact List.set_getElem_self hil
    obtain ⟨r, g1, g2, g3⟩ := mark_inner l i hil (by omega) l[i] hfi.2 (fun g hg => by rw [List.getElem?_eq_getElem hil] at hg; cases hg; rfl) (l, (i : Int)) rfl
    refine ⟨(r, ((i + 1 : Nat) : Int)), ?_, rfl, by rw [g2]; exact h1, fun j hj => by rw [g3 j (by omega)]; exact h2 j (by omega)⟩
    unfold provisolaw18_LinkFrees_b1
    dsimp only
    rw [if_pos (by simpa using hi), idx_at hil, Option.bind_some, Int.toNat_natCast, hset, g1, Option.bind_some, wr1 (by omega)]
  · rintro ⟨l, k⟩ ⟨rfl, h1, h2⟩
    refine ⟨l, ?_, trivial⟩
    unfold provisolaw18_LinkFrees_b1
    rw [if_neg (by simp)]

/-! ### Free -/
/-- What the two functions have in hand: the numbers met, and whether each was met. -/
structure Met (L : Nat) (out : List Int) (called : List Bool) : Prop where
  len : called.length = L
  nodup : out.Nodup
  inb : ∀ n ∈ out, 0 ≤ n ∧ n < (L : Int)
  at_ : ∀ j, j < L → called[j]? = some (decide ((j : Int) ∈ out))
def metL (L : Nat) (out : List Int) : List Int := ((List.range L).filter fun j : Nat => decide ((j : Int) ∈ out)).map fun j : Nat => (j : Int)
theorem metL_sorted (L : Nat) (out : List Int) : (metL L out).Pairwise (· < ·) := by
  unfold metL
  rw [List.pairwise_map]
  exact (List.pairwise_lt_range.filter _).imp (fun h => by omega)
theorem Met.perm {L : Nat} {out : List Int} {called : List Bool} (h : Met L out called) : out.Perm (metL L out) := by
  rw [List.perm_ext_iff_of_nodup h.nodup ((metL_sorted L out).imp (fun h e => by omega))]
  intro n
  unfold metL
  simp only [List.mem_map, List.mem_filter, List.mem_range, decide_eq_true_eq]
  constructor
  · intro hn
    obtain ⟨h0, h1⟩ := h.inb n hn
    exact ⟨n.toNat, ⟨by omega, by rw [Int.toNat_of_nonneg h0]; exact hn⟩, by omega⟩
  · rintro ⟨j, ⟨_, h2⟩, rfl⟩
    exact h2
theorem Met.le {L : Nat} {out : List Int} {called : List Bool} (h : Met L out called) : out.length ≤ L := by
  rw [h.perm.length_eq]
  unfold metL
  rw [List.length_map]
  exact Nat.le_trans (List.length_filter_le _ _) (by simp)
theorem Met.sorted {L : Nat} {out : List Int} {called : List Bool} (h : Met L out called) : sortI out = metL L out := by
  unfold sortI
  refine List.Perm.eq_of_pairwise (le := fun a b => decide (a ≤ b) = true) (fun a b _ _ h1 h2 => by simp at h1 h2; omega) (List.pairwise_mergeSort (fun a b c h1 h2 => by simp at h1 h2 ⊢; omega) (fun a b => by simp; omega) _) ((metL_sorted L out).imp (fun h => by simp; omega)) ((List.mergeSort_perm _ _).trans h.perm)
theorem Met.add {L : Nat} {out : List Int} {called : List Bool} (h : Met L out called) {n : Int} (h0 : 0 ≤ n) (h1 : n < (L : Int)) : Met L (if n ∈ out then out else out ++ [n]) (called.set n.toNat true) := by
  by_cases hn : n ∈ out
  · rw [if_pos hn]
    have e : called.set n.toNat true = called := by
      apply List.ext_getElem?
      intro j
      rw [List.getElem?_set]
      by_cases hj : n.toNat = j
      · subst hj
        rw [if_pos rfl, if_pos (by rw [h.len]; omega), h.at_ _ (by omega), Int.toNat_of_nonneg h0]
        simp [hn]
      · rw [if_neg hj]
    rw [e]
    exact h
  · rw [if_neg hn]
    refine ⟨by simp [h.len], ?_, ?_, ?_⟩
    · rw [List.nodup_append]
      exact ⟨h.nodup, by simp, fun a ha b hb => by simp only [List.mem_singleton] at hb; subst hb; exact fun e => hn (e ▸ ha)⟩
    · intro m hm
      rw [List.mem_append, List.mem_singleton] at hm
      rcases hm with hm | rfl
      · exact h.inb m hm
      · exact ⟨h0, h1⟩
    · intro j hj
      rw [List.getElem?_set]
      by_cases hjn : n.toNat = j
      · subst hjn
        rw [if_pos rfl, if_pos (by rw [h.len]; omega), Int.toNat_of_nonneg h0]
        simp
      · rw [if_neg hjn, h.at_ j hj]
        have : (j : Int) ≠ n := by omega
        simp [this]
theorem scan_len (b : List UInt8) (x : List S_api_Instr × Int × Int) (h : provisoref05_Scan b = some x) : True := trivial

theorem free_inner (p : S_api_Part) (hp : okPart p) (x : List S_api_Instr × Int × Int) (hx : x.1.length ≤ 1000000000) (out : List Int) (called : List Bool) (h : Met p.Imports.length out called) :
    ∃ o1 o2, loopO (link_Free_b0 p x) (out, 0) = some o1 ∧ loopO (provisoref18_Free_b0 p x) (called, 0) = some o2 ∧ Met p.Imports.length o1 o2 := by
  have hL := hp.l
  simp only [big] at hL
  refine loop2 x.1.length (fun i s1 s2 => s1.2 = (i : Int) ∧ s2.2 = (i : Int) ∧ Met p.Imports.length s1.1 s2.1) ?_ ?_ ⟨rfl, rfl, h⟩
  · rintro i ⟨o, k1⟩ ⟨c, k2⟩ hi ⟨rfl, rfl, hm⟩
    dsimp only at hm ⊢
    left
    have hlen := hm.len
    have hle := hm.le
    have hc : decide (wr (x.1[i].A - (p.Module.Funcs.length : Int)) < (c.length : Int)) = decide (wr (x.1[i].A - (p.Module.Funcs.length : Int)) < (p.Imports.length : Int)) := by rw [hlen]
    unfold link_Free_b0 provisoref18_Free_b0
    dsimp only
    rw [if_pos (by simpa using hi), if_pos (by simpa using hi), idx_at hi]
    simp only [Option.bind_some]
    rw [hc, wr1 (by omega)]
    generalize wr (x.1[i].A - (p.Module.Funcs.length : Int)) = n
    by_cases h1 : ((x.1[i].Op.toNat : Int) == 21) = true
    · rw [if_pos h1, if_pos h1]
      by_cases h2 : n ≥ 0
      · have c2 : decide (n ≥ 0) = true := decide_eq_true h2
        rw [if_pos c2, if_pos c2]
        by_cases h3 : n < (p.Imports.length : Int)
        · have c3 : decide (n < (p.Imports.length : Int)) = true := decide_eq_true h3
          rw [if_pos c3, if_pos c3, contains_law _ _ (by omega), Option.bind_some]
          obtain ⟨y, hy, _⟩ := idx_int (l := c) h2 (by rw [hlen]; exact h3)
          rw [hy, Option.bind_some]
          have ha := hm.add h2 h3
          by_cases h4 : n ∈ o
          · rw [if_neg (by simp [h4])]
            rw [if_pos h4] at ha
            exact ⟨_, _, rfl, rfl, rfl, rfl, ha⟩
          · rw [if_pos (by simp [h4]), app_ok (by simp; omega), Option.bind_some]
            rw [if_neg h4] at ha
            exact ⟨_, _, rfl, rfl, rfl, rfl, ha⟩
        · have c3 : ¬ decide (n < (p.Imports.length : Int)) = true := fun hc => h3 (of_decide_eq_true hc)
          rw [if_neg c3, if_neg c3]
          exact ⟨_, _, rfl, rfl, rfl, rfl, hm⟩
      · have c2 : ¬ decide (n ≥ 0) = true := fun hc => h2 (of_decide_eq_true hc)
        rw [if_neg c2, if_neg c2]
        exact ⟨_, _, rfl, rfl, rfl, rfl, hm⟩
    · rw [if_neg h1, if_neg h1]
      exact ⟨_, _, rfl, rfl, rfl, rfl, hm⟩
  · rintro ⟨o, k1⟩ ⟨c, k2⟩ ⟨rfl, rfl, hm⟩
    refine ⟨o, c, ?_, ?_, hm⟩
    · unfold link_Free_b0; rw [if_neg (by simp)]
    · unfold provisoref18_Free_b0; rw [if_neg (by simp)]

/-- A scan comes to something, of no more instructions than bytes. -/
theorem scan_ok (b : List UInt8) : ∃ x, provisoref05_Scan b = some x ∧ x.1.length ≤ 4096 := by
  unfold provisoref05_Scan
  by_cases h : b.length > 4096
  · exact ⟨_, by rw [if_pos (by simp; omega)], by simp⟩
  · rw [if_neg (by simp; omega)]
    have key : ∀ k l i, i + k = 4096 → l.length ≤ i → ∀ at_ : Nat, i ≤ at_ → at_ ≤ b.length → ∃ o, loopO (provisoref05_Scan_b0 b) (l, (at_ : Int)) = some o ∧ ((∃ n e, o = .inl ([], n, e)) ∨ ∃ l' : List S_api_Instr, l'.length ≤ 4096 ∧ o = .inr l') := by
      intro k
      induction k with
      | zero =>
        intro l i hi hl at_ h1 h2
        refine ⟨.inr l, loopO_stop ?_, .inr ⟨l, by omega, rfl⟩⟩
        unfold provisoref05_Scan_b0
        rw [if_neg (by simp; omega)]
      | succ k ih =>
        intro l i hi hl at_ h1 h2
        by_cases hat : at_ < b.length
        · by_cases he : (dec b at_ b[at_]).2 = 0
          · have hs : at_ + siz b[at_] ≤ b.length ∧ 1 ≤ siz b[at_] ∧ (dec b at_ b[at_]).1.Op = b[at_] := by
              unfold dec at he ⊢
              by_cases g0 : siz b[at_] = 0
              · rw [if_pos g0] at he; simp at he
              · rw [if_neg g0] at he ⊢
                by_cases g1 : b.length < at_ + siz b[at_]
                · rw [if_pos g1] at he; simp at he
                · rw [if_neg g1] at he ⊢
                  dsimp only at he ⊢
                  split at he
                  · simp at he
                  · rename_i g2
                    rw [if_neg g2]
                    exact ⟨by omega, by omega, rfl⟩
            obtain ⟨o, g1, g2⟩ := ih (l ++ [(dec b at_ b[at_]).1]) (i + 1) (by omega) (by simp; omega) (at_ + siz b[at_]) (by omega) hs.1
            refine ⟨o, ?_, g2⟩
            have hsz : provisoref04_Size (dec b at_ b[at_]).1.Op = some (siz b[at_] : Int) := by rw [hs.2.2, size_law]
            rw [loopO_step (s' := (l ++ [(dec b at_ b[at_]).1], ((at_ + siz b[at_] : Nat) : Int))), g1]
            unfold provisoref05_Scan_b0
            dsimp only
            rw [if_pos (by simpa using hat), dec_ref b (by simp only [big]; omega) at_ hat, Option.bind_some, if_neg (by simp [he]), app_ok (by simp; omega), Option.bind_some, hsz, Option.bind_some, wr_id (by omega) (by omega)]
            congr 3
          · refine ⟨.inl ([], (at_ : Int), (dec b at_ b[at_]).2), loopO_stop ?_, .inl ⟨_, _, rfl⟩⟩
            unfold provisoref05_Scan_b0
            dsimp only
            rw [if_pos (by simpa using hat), dec_ref b (by simp only [big]; omega) at_ hat, Option.bind_some, if_pos (by simpa using he)]
        · refine ⟨.inr l, loopO_stop ?_, .inr ⟨l, by omega, rfl⟩⟩
          unfold provisoref05_Scan_b0
          rw [if_neg (by simp; omega)]
    obtain ⟨o, g1, g2⟩ := key 4096 [] 0 (by omega) (by simp) 0 (by omega) (by omega)
    rw [show ((0 : Nat) : Int) = 0 from rfl] at g1
    rw [g1, Option.bind_some]
    rcases g2 with ⟨n, e, rfl⟩ | ⟨l', g2, rfl⟩
    · exact ⟨_, rfl, by simp⟩
    · exact ⟨_, rfl, g2⟩

theorem free_law (p : S_api_Part) (hp : okPart p) : ∃ t, link_Free p = some t ∧ provisoref18_Free p = some t ∧ t.1.length ≤ big := by
  have hL := hp.l
  have hF := hp.m.fl
  simp only [big] at hL hF
  unfold link_Free provisoref18_Free
  have hmk : mkO 1 (p.Imports.length : Int) false = some (List.replicate p.Imports.length false) := by
    unfold mkO
    rw [if_pos ⟨by omega, by omega, by omega⟩, Int.toNat_natCast]
  rw [hmk, Option.bind_some]
  have h0 : Met p.Imports.length [] (List.replicate p.Imports.length false) := ⟨by simp, by simp, by simp, fun j hj => by rw [List.getElem?_replicate, if_pos hj]; simp⟩
  obtain ⟨r1, r2, g1, g2, g3⟩ := loop2 p.Module.Funcs.length (b1 := link_Free_b1 p) (b2 := provisoref18_Free_b1 p) (fun i s1 s2 => s1.2 = (i : Int) ∧ s2.2 = (i : Int) ∧ Met p.Imports.length s1.1 s2.1)
    (Post := fun r1 r2 => (∃ n e, r1 = .inl ([], n, e) ∧ r2 = .inl ([], n, e)) ∨ ∃ o c, r1 = .inr o ∧ r2 = .inr c ∧ Met p.Imports.length o c) (fun i s1 s2 hi hI => by
      obtain ⟨o, k1⟩ := s1
      obtain ⟨c, k2⟩ := s2
      obtain ⟨rfl, rfl, hm⟩ := hI
      dsimp only at hm
      obtain ⟨x, hx, hxl⟩ := scan_ok p.Module.Funcs[i].Code
      have hx' : flow_Scan p.Module.Funcs[i].Code = some x := by rw [scan_eq]; exact hx
      unfold link_Free_b1 provisoref18_Free_b1
      dsimp only
      rw [if_pos (by simpa using hi), if_pos (by simpa using hi), idx_at hi, Option.bind_some, Option.bind_some, hx, hx', Option.bind_some, Option.bind_some]
      by_cases he : (x.2.2 != 0) = true
      · rw [if_pos he, if_pos he]
        exact .inr ⟨_, _, rfl, rfl, .inl ⟨_, _, rfl, rfl⟩⟩
      · rw [if_neg he, if_neg he]
        obtain ⟨o1, o2, f1, f2, f3⟩ := free_inner p hp x (by omega) o c hm
        rw [f1, f2, Option.bind_some, Option.bind_some, wr1 (by omega)]
        exact .inl ⟨_, _, rfl, rfl, rfl, rfl, f3⟩)
    (fun s1 s2 hI => by
      obtain ⟨o, k1⟩ := s1
      obtain ⟨c, k2⟩ := s2
      obtain ⟨rfl, rfl, hm⟩ := hI
      refine ⟨.inr o, .inr c, ?_, ?_, .inr ⟨o, c, rfl, rfl, hm⟩⟩
      · unfold link_Free_b1; rw [if_neg (by simp)]
      · unfold provisoref18_Free_b1; rw [if_neg (by simp)]) (s1 := ([], 0)) (s2 := (List.replicate p.Imports.length false, 0)) ⟨rfl, rfl, h0⟩
  rw [g1, g2, Option.bind_some, Option.bind_some]
  rcases g3 with ⟨n, e, rfl, rfl⟩ | ⟨o, c, rfl, rfl, hm⟩
  · exact ⟨_, rfl, rfl, by simp⟩
  · have hle := hm.le
    refine ⟨(metL p.Imports.length o, 0, 0), ?_, ?_, ?_⟩
    · dsimp only
      unfold sortO
      rw [if_pos (by omega), Option.bind_some, hm.sorted]
    · dsimp only
      have hb : loopO (provisoref18_Free_b2 c) ([], 0) = some (metL p.Imports.length o) := by
        refine loop_at p.Imports.length (fun i => (metL i o, (i : Int))) (fun i hi => ?_) ?_ (by simp [metL])
        · have hml : (metL i o).length ≤ i := by
            unfold metL
            rw [List.length_map]
            exact Nat.le_trans (List.length_filter_le _ _) (by simp)
          have hstep : metL (i + 1) o = if (i : Int) ∈ o then metL i o ++ [(i : Int)] else metL i o := by
            unfold metL
            rw [List.range_succ, List.filter_append, List.map_append]
            by_cases h : (i : Int) ∈ o <;> simp [h]
          unfold provisoref18_Free_b2
          dsimp only
          rw [if_pos (by rw [hm.len]; simpa using hi), idx_nat, hm.at_ i hi, Option.bind_some, wr1 (by omega), hstep]
          by_cases h : (i : Int) ∈ o
          · rw [if_pos (by simpa using h), if_pos h, app_ok (by simp; omega), Option.bind_some]
          · rw [if_neg (by simpa using h), if_neg h]
        · unfold provisoref18_Free_b2
          rw [if_neg (by rw [hm.len]; simp)]
      rw [hb, Option.bind_some]
    · dsimp only
      rw [← hm.perm.length_eq]
      simp only [big]
      omega

/-! ### The statement -/
theorem LinkFrees_law (p : S_api_Part) (hp : okPart p) : provisolaw18_LinkFrees p = some true := by
  obtain ⟨t, h1, h2, h3⟩ := free_law p hp
  have hq : okPart ⟨⟨p.Module.Name, p.Module.Classes, p.Module.Funcs, []⟩, []⟩ := ⟨⟨hp.m.cl, hp.m.fl, by simp, hp.m.c, hp.m.f, by simp⟩, by simp, by simp⟩
  obtain ⟨r, h4, _⟩ := mark_outer ⟨⟨p.Module.Name, p.Module.Classes, p.Module.Funcs, []⟩, []⟩ hp.m.fl hp.m.f
  unfold provisolaw18_LinkFrees
  rw [show (⟨(⟨p.Module.Name, p.Module.Classes, p.Module.Funcs, p.Module.Certs⟩ : S_api_Module), p.Imports⟩ : S_api_Part) = p from rfl, part_law p hp, Option.bind_some]
  rw [show (⟨p.Module.Name, p.Module.Classes, p.Module.Funcs, p.Module.Certs⟩ : S_api_Module) = p.Module from rfl, alone_law _ hp.m, Option.bind_some, module_law _ hp.m, Option.bind_some]
  dsimp only
  rw [samePart_law _ hq, Option.bind_some, if_neg (by simp)]
  dsimp only at h4
  rw [h4, Option.bind_some, show (⟨(⟨p.Module.Name, p.Module.Classes, p.Module.Funcs, p.Module.Certs⟩ : S_api_Module), p.Imports⟩ : S_api_Part) = p from rfl, h1, Option.bind_some, h2, Option.bind_some, eqI _ (by simp only [big] at h3; omega), Option.bind_some, if_pos rfl, if_pos (by simp), if_pos (by simp), samePart_law p hp]
  rfl
end Go.Proofs.Ytmeodoidfpcjlaa
