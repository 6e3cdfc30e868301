/- Plain law of Opt: code read; code that may be. -/
import Derived.Test.YtmeodoidfpcjlaaLon
set_option linter.unusedVariables false
set_option linter.unusedSimpArgs false
namespace Go.Proofs.Ytmeodoidfpcjlaa
open Go Go.RowKit Go.Pv

def szr (L : List S_api_Instr) (j : Nat) : Nat := match L[j]? with | some x => siz x.Op | none => 0
def adr (L : List S_api_Instr) (i : Nat) : Nat := sumR (szr L) i
theorem adr_succ {L : List S_api_Instr} {i : Nat} {x : S_api_Instr} (h : L[i]? = some x) : adr L (i + 1) = adr L i + siz x.Op := by
  show sumR _ i + szr L i = _
  unfold szr
  rw [h]
  rfl
theorem adr_app (L : List S_api_Instr) (x : S_api_Instr) {i : Nat} (h : i ≤ L.length) : adr (L ++ [x]) i = adr L i := by
  unfold adr
  apply sumR_congr
  intro j hj
  unfold szr
  rw [List.getElem?_append_left (by omega)]
/-- An instruction that was read. -/
structure Got (b : List UInt8) (a : Nat) (x : S_api_Instr) : Prop where
  at_ : x.At = (a : Int)
  op : x.Op.toNat < 34
  fa : fit x.Op (wid x.Op).1 x.A
  fb : fit x.Op (wid x.Op).2 x.B
  le : a + siz x.Op ≤ b.length
theorem fit_sgn (op : UInt8) (w : Nat) (l : List UInt8) (hl : l.length = w) (hw : w = 0 ∨ w = 1 ∨ w = 2 ∨ w = 4) (h2 : op.toNat = 2 → w = 1 → sgn w (num l) ≤ 1) : fit op w (sgn w (num l)) := by
  have hn := num_lt l
  rw [hl] at hn
  rcases hw with rfl | rfl | rfl | rfl
  · have : num l = 0 := by simpa using hn
    exact .inl ⟨rfl, by rw [this]; rfl⟩
  · refine .inr (.inl ⟨rfl, ?_, ?_, fun h => h2 h rfl⟩)
    · unfold sgn; rw [if_neg (by omega)]; omega
    · unfold sgn; rw [if_neg (by omega)]; omega
  · refine .inr (.inr (.inl ⟨rfl, ?_, ?_⟩))
    · unfold sgn; rw [if_neg (by omega)]; omega
    · unfold sgn; rw [if_neg (by omega)]; omega
  · refine .inr (.inr (.inr ⟨rfl, ?_, ?_⟩))
    · unfold sgn; split <;> omega
    · unfold sgn; split <;> omega
theorem wid_in (op : UInt8) : ((wid op).1 = 0 ∨ (wid op).1 = 1 ∨ (wid op).1 = 2 ∨ (wid op).1 = 4) ∧ ((wid op).2 = 0 ∨ (wid op).2 = 1) ∧ (op.toNat = 2 → (wid op).2 = 0) := by
  unfold wid
  refine ⟨?_, ?_, fun h => ?_⟩
  · repeat' split
    all_goals simp
  · repeat' split
    all_goals simp
  · rw [h]; rfl
theorem dec_got (b : List UInt8) (a : Nat) (o : UInt8) (x : S_api_Instr) (e : Int) (h : dec b a o = (x, e)) : (e ≠ 0 ∧ True) ∨ (e = 0 ∧ Got b a x ∧ x.Op = o) := by
  unfold dec at h
  by_cases h0 : siz o = 0
  · rw [if_pos h0] at h; cases h; exact .inl ⟨by decide, trivial⟩
  · rw [if_neg h0] at h
    by_cases h1 : b.length < a + siz o
    · rw [if_pos h1] at h; cases h; exact .inl ⟨by decide, trivial⟩
    · rw [if_neg h1] at h
      dsimp only at h
      have hop : o.toNat < 34 := by
        unfold siz at h0
        split at h0
        · exact absurd rfl h0
        · omega
      have hs : siz o = 1 + (wid o).1 + (wid o).2 := by unfold siz; rw [if_neg (by omega)]
      obtain ⟨w1, w2, w3⟩ := wid_in o
      split at h
      · cases h; exact .inl ⟨by decide, trivial⟩
      · rename_i hc
        cases h
        refine .inr ⟨rfl, ⟨rfl, hop, ?_, ?_, by dsimp only; omega⟩, rfl⟩
        · show fit o (wid o).1 _
          refine fit_sgn _ _ _ (by simp; omega) w1 (fun ho _ => ?_)
          exact Int.not_lt.mp (fun hc' => hc ⟨ho, hc'⟩)
        · show fit o (wid o).2 _
          refine fit_sgn _ _ _ (by simp; omega) (by omega) (fun ho hw => ?_)
          have := w3 ho
          omega
structure Scanned (b : List UInt8) (L : List S_api_Instr) : Prop where
  at_ : ∀ (j : Nat) x, L[j]? = some x → Got b (adr L j) x
  tot : adr L L.length = b.length
theorem Scanned.le {b : List UInt8} {L : List S_api_Instr} (h : ∀ (j : Nat) x, L[j]? = some x → Got b (adr L j) x) : ∀ i, i ≤ L.length → i ≤ adr L i
  | 0, _ => Nat.zero_le _
  | i + 1, hi => by
    obtain ⟨x, hx⟩ := get_of (l := L) (i := i) (by omega)
    have := Scanned.le h i (by omega)
    have := siz_pos (h i x hx).op
    rw [adr_succ hx]
    omega
theorem scan_law (b : List UInt8) (hb : b.length ≤ 600 ∨ b.length ≤ 4096) : ∃ r, provisoref05_Scan b = some r ∧ (r.2.2 ≠ 0 ∨ (r.2 = (0, 0) ∧ Scanned b r.1)) := by
  have hb' : b.length ≤ 4096 := by omega
  unfold provisoref05_Scan
  rw [if_neg (by simp; omega)]
  obtain ⟨r, r1, r2⟩ := loopM (body := provisoref05_Scan_b0 b) (fun s => b.length - s.2.toNat) (fun s => s.2 = (adr s.1 s.1.length : Int) ∧ adr s.1 s.1.length ≤ b.length ∧ ∀ (j : Nat) x, s.1[j]? = some x → Got b (adr s.1 j) x)
    (Post := fun r => (∃ p, r = .inl p ∧ p.2.2 ≠ 0) ∨ (∃ L, r = .inr L ∧ Scanned b L)) (fun s hs => by
    obtain ⟨acc, a⟩ := s
    obtain ⟨a1, a2, a3⟩ := hs
    dsimp only at a1 a2 a3
    subst a1
    unfold provisoref05_Scan_b0
    dsimp only
    by_cases hlt : adr acc acc.length < b.length
    · rw [if_pos (decide_eq_true (by omega)), dec_ref b (by simp only [big]; omega) _ hlt, Option.bind_some]
      generalize hd : dec b (adr acc acc.length) b[adr acc acc.length] = d
      obtain ⟨x, e⟩ := d
      have hal := Scanned.le a3 acc.length (Nat.le_refl _)
      rcases dec_got b _ _ x e hd with ⟨he, -⟩ | ⟨he, hg, ho⟩
      · right
        have c : (e != 0) = true := by rw [bne_iff_ne]; exact he
        dsimp only
        rw [if_pos c]
        exact ⟨_, rfl, .inl ⟨_, rfl, he⟩⟩
      · left
        subst he
        dsimp only
        have hsz := siz_pos hg.op
        have hsl := siz_le x.Op
        rw [if_neg (by decide), app_ok (by simp; omega), Option.bind_some, size_law, Option.bind_some, wr_id (by omega) (by omega)]
        have hx : (acc ++ [x])[acc.length]? = some x := by simp
        have hadr : adr (acc ++ [x]) (acc ++ [x]).length = adr acc acc.length + siz x.Op := by
          rw [List.length_append, List.length_singleton, adr_succ hx, adr_app _ _ (Nat.le_refl _)]
        refine ⟨_, rfl, ⟨?_, ?_, fun j y hy => ?_⟩, ?_⟩
        · show (adr acc acc.length : Int) + (siz x.Op : Int) = (adr (acc ++ [x]) (acc ++ [x]).length : Int)
          rw [hadr]; omega
        · show adr (acc ++ [x]) (acc ++ [x]).length ≤ b.length
          rw [hadr]; exact hg.le
        · show Got b (adr (acc ++ [x]) j) y
          have hj : (acc ++ [x])[j]? = some y := hy
          have hjl := get_lt hj
          rw [List.length_append, List.length_singleton] at hjl
          rw [adr_app _ _ (by omega)]
          by_cases e : j = acc.length
          · subst e
            rw [hx] at hj
            cases hj
            exact hg
          · rw [List.getElem?_append_left (by omega)] at hj
            exact a3 j y hj
        · dsimp only; omega
    · right
      rw [if_neg (by simp; omega)]
      exact ⟨_, rfl, .inr ⟨acc, rfl, a3, by omega⟩⟩) (s := (([] : List S_api_Instr), 0)) ⟨rfl, Nat.zero_le _, fun j x hx => by cases hx⟩
  rw [r1, Option.bind_some]
  rcases r2 with ⟨p, rfl, hp⟩ | ⟨L, rfl, hL⟩
  · exact ⟨p, rfl, .inl hp⟩
  · exact ⟨_, rfl, .inr ⟨rfl, hL⟩⟩

/-! ### Places -/
theorem Scanned.lt {b : List UInt8} {L : List S_api_Instr} (h : Scanned b L) {i j : Nat} (hij : i < j) (hj : j ≤ L.length) : adr L i < adr L j := by
  induction j with
  | zero => omega
  | succ j ih =>
    obtain ⟨x, hx⟩ := get_of (l := L) (i := j) (by omega)
    rw [adr_succ hx]
    have := siz_pos (h.at_ j x hx).op
    by_cases e : i = j
    · subst e; omega
    · have := ih (by omega) (by omega); omega
theorem Scanned.inj {b : List UInt8} {L : List S_api_Instr} (h : Scanned b L) {i j : Nat} (hi : i ≤ L.length) (hj : j ≤ L.length) (e : adr L i = adr L j) : i = j := by
  rcases Nat.lt_trichotomy i j with h1 | h1 | h1
  · have := h.lt h1 hj; omega
  · exact h1
  · have := h.lt h1 hi; omega
/-- What the maps of places hold. -/
def Places (L : List S_api_Instr) (m : List (Int × Int)) : Prop := (∀ j, j < L.length → mget m (adr L j : Int) = some (j : Int)) ∧ ∀ a, (∀ j, j < L.length → a ≠ (adr L j : Int)) → mget m a = none
theorem places_loop {b : List UInt8} {L : List S_api_Instr} (h : Scanned b L) (hL : L.length ≤ 100000) {body : List (Int × Int) × Int → Option ((List (Int × Int) × Int) ⊕ List (Int × Int))}
    (hs : ∀ (i : Nat) (m : List (Int × Int)) x, L[i]? = some x → x.At = (adr L i : Int) → mget m (adr L i : Int) = none → body (m, (i : Int)) = some (.inl (mset m (adr L i : Int) (i : Int), ((i + 1 : Nat) : Int)))) (he : ∀ m, body (m, (L.length : Int)) = some (.inr m)) : ∃ m, loopO body (([] : List (Int × Int)), 0) = some m ∧ Places L m := by
  obtain ⟨m, m1, m2⟩ := loop_inv L.length (body := body) (fun i s => s.2 = (i : Int) ∧ (∀ j, j < L.length → mget s.1 (adr L j : Int) = if j < i then some (j : Int) else none) ∧ ∀ a, (∀ j, j < L.length → a ≠ (adr L j : Int)) → mget s.1 a = none)
    (Post := Places L) (fun i s hi hs' => by
    obtain ⟨m, k⟩ := s
    obtain ⟨a1, a2, a3⟩ := hs'
    dsimp only at a1 a2 a3
    subst a1
    obtain ⟨x, hx⟩ := get_of hi
    have e1 := a2 i hi
    rw [if_neg (by omega)] at e1
    refine ⟨_, hs i m x hx (h.at_ i x hx).at_ e1, rfl, fun j hj => ?_, fun a ha => ?_⟩
    · dsimp only
      rw [mget_mset, a2 j hj]
      by_cases e : j = i
      · subst e; rw [if_pos rfl, if_pos (by omega)]
      · have : ¬ ((adr L j : Int) = (adr L i : Int)) := fun hc => e (h.inj (by omega) (by omega) (by omega))
        rw [if_neg this]
        have : (j < i) ↔ (j < i + 1) := by omega
        simp only [this]
    · dsimp only
      rw [mget_mset, if_neg (ha i hi), a3 a ha]) (fun s hs' => by
    obtain ⟨m, k⟩ := s
    obtain ⟨a1, a2, a3⟩ := hs'
    dsimp only at a1 a2 a3
    subst a1
    exact ⟨m, he m, fun j hj => by rw [a2 j hj, if_pos hj], a3⟩) (s := (([] : List (Int × Int)), 0)) ⟨rfl, fun j _ => by rw [if_neg (by omega)]; rfl, fun a _ => rfl⟩
  exact ⟨m, m1, m2⟩
theorem addresses_law {b : List UInt8} {L : List S_api_Instr} (h : Scanned b L) (hL : L.length ≤ 100000) : ∃ m, flow_addresses L = some m ∧ Places L m := by
  obtain ⟨m, m1, m2⟩ := places_loop h hL (body := flow_addresses_b0 L) (fun i m x hx hat hn => by
    have hi := get_lt hx
    unfold flow_addresses_b0
    dsimp only
    rw [if_pos (decide_eq_true (by omega)), idxs hx, Option.bind_some, hat, hn, if_pos (by simp), wr1 (by omega)]) (fun m => by
    unfold flow_addresses_b0
    rw [if_neg (by simp)])
  unfold flow_addresses
  rw [m1]
  exact ⟨m, rfl, m2⟩
theorem place_law {b : List UInt8} {L : List S_api_Instr} (h : Scanned b L) (hL : L.length ≤ 100000) (A : Int) : (∃ j, j < L.length ∧ A = (adr L j : Int) ∧ provisoref05_Place L A = some (j : Int)) ∨ ((∀ j, j < L.length → A ≠ (adr L j : Int)) ∧ provisoref05_Place L A = some (-1)) := by
  unfold provisoref05_Place
  obtain ⟨r, r1, r2⟩ := loopM (body := provisoref05_Place_b0 L A) (fun s => L.length - s.toNat) (fun s => ∃ i : Nat, s = (i : Int) ∧ i ≤ L.length ∧ ∀ j, j < i → A ≠ (adr L j : Int))
    (Post := fun r => (∃ j : Nat, r = .inl (j : Int) ∧ j < L.length ∧ A = (adr L j : Int)) ∨ (r = .inr () ∧ ∀ j, j < L.length → A ≠ (adr L j : Int))) (fun s hs => by
    obtain ⟨i, rfl, hi, he⟩ := hs
    unfold provisoref05_Place_b0
    by_cases hlt : i < L.length
    · obtain ⟨x, hx⟩ := get_of hlt
      rw [if_pos (decide_eq_true (by omega)), idxs hx, Option.bind_some, wr1 (by omega), (h.at_ i x hx).at_]
      by_cases e : (adr L i : Int) = A
      · right
        rw [if_pos (by simp [e])]
        exact ⟨_, rfl, .inl ⟨i, rfl, hlt, e.symm⟩⟩
      · left
        have c : ¬ ((adr L i : Int) == A) = true := by rw [beq_iff_eq]; exact e
        rw [if_neg c]
        refine ⟨_, rfl, ⟨i + 1, rfl, by omega, fun j hj => ?_⟩, by omega⟩
        by_cases e2 : j = i
        · subst e2; exact fun hc => e hc.symm
        · exact he j (by omega)
    · right
      have : i = L.length := by omega
      subst this
      rw [if_neg (by simp)]
      exact ⟨_, rfl, .inr ⟨rfl, he⟩⟩) (s := 0) ⟨0, rfl, by omega, fun j hj => absurd hj (by omega)⟩
  rw [r1, Option.bind_some]
  rcases r2 with ⟨j, rfl, hj, e⟩ | ⟨rfl, e⟩
  · exact .inl ⟨j, hj, e, rfl⟩
  · exact .inr ⟨e, rfl⟩
theorem Scanned.count {b : List UInt8} {L : List S_api_Instr} (h : Scanned b L) : L.length ≤ b.length := by
  have := Scanned.le h.at_ L.length (Nat.le_refl _)
  rw [h.tot] at this
  exact this

/-! ### Code that may be -/
structure Fine (L : List S_api_Instr) : Prop where
  jm : ∀ x ∈ L, jmp x.Op = true → ∃ j, j < L.length ∧ x.A = (adr L j : Int)
  last : ∃ x, L[L.length - 1]? = some x ∧ endz x.Op = true
theorem check_law (b : List UInt8) (hb : b.length ≤ 4096) : ∃ r, flow_Check b = some r ∧ provisoref05_Check b = some r ∧ (r.2 = 0 → ∃ L, provisoref05_Scan b = some (L, 0, 0) ∧ Scanned b L ∧ Fine L) ∧ ∀ L, provisoref05_Scan b = some (L, 0, 0) → Scanned b L → Fine L → r.2 = 0 := by
  obtain ⟨⟨L, p, e⟩, s1, s2⟩ := scan_law b (.inr hb)
  dsimp only at s2
  unfold flow_Check provisoref05_Check
  rw [scan_eq, s1, Option.bind_some, Option.bind_some]
  dsimp only
  rcases s2 with he | ⟨he, hL⟩
  · have c : (e != 0) = true := by rw [bne_iff_ne]; exact he
    rw [if_pos c, if_pos c]
    refine ⟨_, rfl, rfl, fun hc => absurd hc he, fun L' h1 _ _ => ?_⟩
    cases h1
    exact absurd rfl he
  · cases he
    have hcn := hL.count
    obtain ⟨m, m1, m2, m3⟩ := addresses_law hL (by omega)
    have c0 : ¬ ((0 : Int) != 0) = true := by decide
    rw [if_neg c0, if_neg c0, m1, Option.bind_some]
    have ebody : flow_Check_b0 (L, 0, 0) m = provisoref05_Check_b0 (L, 0, 0) := by
      funext s
      unfold flow_Check_b0 provisoref05_Check_b0
      dsimp only
      congr 1
      cases idx L s with
      | none => rfl
      | some x =>
        rw [Option.bind_some, Option.bind_some, jumps_code, jumps_ref, Option.bind_some, Option.bind_some]
        rcases place_law hL (by omega) x.A with ⟨j, hj, eA, hp⟩ | ⟨hn, hp⟩
        · rw [hp, eA, m2 j hj]
          simp
        · rw [hp, m3 _ hn]
          simp
    rw [ebody]
    obtain ⟨r, r1, r2⟩ := loopM (body := provisoref05_Check_b0 (L, 0, 0)) (fun s => L.length - s.toNat) (fun s => ∃ i : Nat, s = (i : Int) ∧ i ≤ L.length ∧ ∀ j x, j < i → L[j]? = some x → jmp x.Op = true → ∃ k, k < L.length ∧ x.A = (adr L k : Int))
      (Post := fun r => (∃ q : Int, r = .inl (q, 50) ∧ ¬ (∀ x ∈ L, jmp x.Op = true → ∃ j, j < L.length ∧ x.A = (adr L j : Int))) ∨ (r = .inr () ∧ ∀ x ∈ L, jmp x.Op = true → ∃ j, j < L.length ∧ x.A = (adr L j : Int))) (fun s hs => by
      obtain ⟨i, rfl, hi, he⟩ := hs
      unfold provisoref05_Check_b0
      dsimp only
      by_cases hlt : i < L.length
      · obtain ⟨x, hx⟩ := get_of hlt
        rw [if_pos (decide_eq_true (by omega)), idxs hx, Option.bind_some, wr1 (by omega), jumps_ref, Option.bind_some]
        cases hj : jmp x.Op
        · left
          rw [if_neg (by simp)]
          refine ⟨_, rfl, ⟨i + 1, rfl, by omega, fun j y hjl hy hjy => ?_⟩, by omega⟩
          by_cases e2 : j = i
          · subst e2; rw [hx] at hy; cases hy; rw [hj] at hjy; cases hjy
          · exact he j y (by omega) hy hjy
        · rw [if_pos rfl]
          rcases place_law hL (by omega) x.A with ⟨k, hk, eA, hp⟩ | ⟨hn, hp⟩
          · left
            rw [hp, Option.bind_some, if_neg (by simp)]
            refine ⟨_, rfl, ⟨i + 1, rfl, by omega, fun j y hjl hy hjy => ?_⟩, by omega⟩
            by_cases e2 : j = i
            · subst e2; rw [hx] at hy; cases hy; exact ⟨k, hk, eA⟩
            · exact he j y (by omega) hy hjy
          · right
            rw [hp, Option.bind_some, if_pos (by decide)]
            refine ⟨_, rfl, .inl ⟨_, rfl, fun hc => ?_⟩⟩
            obtain ⟨k, hk, eA⟩ := hc x (List.mem_of_getElem? hx) hj
            exact hn k hk eA
      · right
        rw [if_neg (by simp; omega)]
        refine ⟨_, rfl, .inr ⟨rfl, fun x hx hj => ?_⟩⟩
        obtain ⟨j, hjx⟩ := List.getElem?_of_mem hx
        exact he j x (by have := get_lt hjx; omega) hjx hj) (s := 0) ⟨0, rfl, by omega, fun j x hj => absurd hj (by omega)⟩
    rw [r1, Option.bind_some, Option.bind_some]
    rcases r2 with ⟨q, rfl, hq⟩ | ⟨rfl, hall⟩
    · refine ⟨_, rfl, rfl, fun hc => absurd hc (by show ¬ ((50 : Int) = 0); decide), fun L' h1 _ hf => ?_⟩
      cases h1
      exact absurd hf.jm hq
    · dsimp only
      by_cases h0 : L.length = 0
      · have c : ((L.length : Int) == 0) = true := by simp [h0]
        rw [if_pos c, if_pos c]
        refine ⟨_, rfl, rfl, fun hc => absurd hc (by show ¬ ((51 : Int) = 0); decide), fun L' h1 _ hf => ?_⟩
        cases h1
        obtain ⟨x, hx, _⟩ := hf.last
        have := get_lt hx
        omega
      · have c : ¬ ((L.length : Int) == 0) = true := by rw [beq_iff_eq]; omega
        obtain ⟨x, hx⟩ := get_of (l := L) (i := L.length - 1) (by omega)
        have ew : wr ((L.length : Int) - 1) = ((L.length - 1 : Nat) : Int) := by rw [wr_id] <;> omega
        rw [if_neg c, if_neg c, ew, idxs hx]
        simp only [Option.bind_some, ends_code, ends_ref]
        cases he : endz x.Op
        · simp only [Bool.not_false, if_true]
          refine ⟨_, rfl, rfl, fun hc => absurd hc (by show ¬ ((51 : Int) = 0); decide), fun L' h1 _ hf => ?_⟩
          cases h1
          obtain ⟨z, hz, hze⟩ := hf.last
          rw [hx] at hz
          cases hz
          rw [he] at hze
          cases hze
        · simp only [Bool.not_true, Bool.false_eq_true, if_false]
          exact ⟨_, rfl, rfl, fun _ => ⟨L, rfl, hL, hall, x, hx, he⟩, fun _ _ _ _ => rfl⟩
end Go.Proofs.Ytmeodoidfpcjlaa
