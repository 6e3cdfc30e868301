/- Plain law of Opt: items of code; code read again. -/
import Derived.Test.YtmeodoidfpcjlaaLoo
set_option linter.unusedVariables false
set_option linter.unusedSimpArgs false
namespace Go.Proofs.Ytmeodoidfpcjlaa
open Go Go.RowKit Go.Pv

def itm (m : List (Int × Int)) (x : S_api_Instr) : It := ⟨x, if jmp x.Op = true then (mget m x.A).getD 0 else 0, false⟩
theorem items_law {b : List UInt8} (hb : b.length ≤ 600) {L : List S_api_Instr} (hs : provisoref05_Scan b = some (L, 0, 0)) (hL : Scanned b L) (hf : Fine L) :
    ∃ m, Places L m ∧ opt_items b = some (L.map (itm m)) ∧ provisoref19_read b = some ((L.map (itm m)).map abs) ∧ Good (L.map (itm m)) ∧ bytes ((L.map (itm m)).map abs) = b.length := by
  have hcn := hL.count
  obtain ⟨m, m1, m2⟩ := places_loop hL (by omega) (body := opt_items_b0 (L, 0, 0)) (fun i m x hx hat hn => by
    have hi := get_lt hx
    unfold opt_items_b0
    dsimp only
    rw [if_pos (decide_eq_true (by omega)), idxs hx, Option.bind_some, hat, wr1 (by omega)]) (fun m => by
    unfold opt_items_b0
    dsimp only
    rw [if_neg (by simp)])
  refine ⟨m, m2, ?_, ?_, ?_, ?_⟩
  · unfold opt_items
    rw [scan_eq, hs, Option.bind_some, m1, Option.bind_some, loop_map L (itm m) (fun i hi acc ha => by
      have hx : L[i]? = some L[i] := List.getElem?_eq_getElem hi
      generalize L[i] = x at hx
      unfold opt_items_b1
      dsimp only
      rw [if_pos (decide_eq_true (by omega)), idxs hx, Option.bind_some, wr1 (by omega), jumps_code, Option.bind_some]
      unfold itm
      cases hj : jmp x.Op
      · simp only [Bool.false_eq_true, if_false]
        rw [app_ok (by simp; omega)]
        rfl
      · simp only [if_true]
        rw [app_ok (by simp; omega)]
        rfl) (fun acc => by
      unfold opt_items_b1
      dsimp only
      rw [if_neg (by simp)]), Option.bind_some]
  · unfold provisoref19_read
    rw [hs, Option.bind_some, loop_map L (fun x => abs (itm m x)) (fun i hi acc ha => by
      have hx : L[i]? = some L[i] := List.getElem?_eq_getElem hi
      generalize L[i] = x at hx
      unfold provisoref19_read_b0
      dsimp only
      rw [if_pos (decide_eq_true (by omega)), idxs hx, Option.bind_some, wr1 (by omega), jumps_ref, Option.bind_some]
      cases hj : jmp x.Op
      · rw [abs_n (x := itm m x) hj, if_neg (by simp), app_ok (by simp; omega)]
        rfl
      · rw [abs_j (x := itm m x) hj, if_pos rfl]
        obtain ⟨j, hjl, eA⟩ := hf.jm x (List.mem_of_getElem? hx) hj
        have et : (itm m x).to = (j : Int) := by
          unfold itm
          dsimp only
          rw [if_pos hj, eA, m2.1 j hjl]; rfl
        rcases place_law hL (by omega) x.A with ⟨k, hk, eA2, hp⟩ | ⟨hn, hp⟩
        · have : k = j := hL.inj (by omega) (by omega) (by omega)
          subst this
          rw [hp, Option.bind_some, app_ok (by simp; omega), et]
          rfl
        · exact absurd eA (hn j hjl)) (fun acc => by
      unfold provisoref19_read_b0
      dsimp only
      rw [if_neg (by simp)]), Option.bind_some, List.map_map]
    rfl
  · refine ⟨by rw [List.length_map]; omega, fun y hy => ?_, ?_⟩
    · rw [List.mem_map] at hy
      obtain ⟨x, hx, rfl⟩ := hy
      obtain ⟨i, hi⟩ := List.getElem?_of_mem hx
      have hg := hL.at_ i x hi
      rw [List.length_map]
      refine ⟨⟨?_, fun hj => ?_⟩, rfl⟩
      · cases hj : jmp x.Op
        · rw [abs_n (x := itm m x) hj]
          exact ⟨hg.op, hg.fa, hg.fb, fun hc => absurd hc (by show ¬ (jmp x.Op = true); rw [hj]; simp), fun _ => rfl⟩
        · rw [abs_j (x := itm m x) hj]
          obtain ⟨j, hjl, eA⟩ := hf.jm x hx hj
          have et : (itm m x).to = (j : Int) := by
            unfold itm
            dsimp only
            rw [if_pos hj, eA, m2.1 j hjl]; rfl
          have hw : (wid x.Op).1 = 2 := by
            unfold jmp at hj
            rw [Bool.or_eq_true, beq_iff_eq, beq_iff_eq] at hj
            unfold wid
            rcases hj with o | o <;> rw [o] <;> rfl
          refine ⟨hg.op, .inr (.inr (.inl ⟨hw, by show (0 : Int) ≤ 0; omega, by show (0 : Int) ≤ 65535; omega⟩)), hg.fb, fun _ => ⟨?_, ?_, rfl⟩, fun hc => absurd hc (by show ¬ (jmp x.Op = false); rw [hj]; simp)⟩
          · show 0 ≤ (itm m x).to
            rw [et]; omega
          · show (itm m x).to < _
            rw [et]; omega
      · unfold itm at hj ⊢
        dsimp only at hj ⊢
        rw [if_neg (by simp [hj])]
    · obtain ⟨x, hx, he⟩ := hf.last
      exact ⟨itm m x, by rw [List.length_map, List.getElem?_map, hx]; rfl, he⟩
  · rw [bytes_map, List.map_map, ← hL.tot]
    unfold adr
    have e : (L.map ((fun x : It => siz x.in_.Op) ∘ itm m)) = L.map fun x => siz x.Op := List.map_congr_left fun x _ => rfl
    rw [e]
    conv => lhs; rw [← List.take_length (l := L), ← fm_get L L.length (Nat.le_refl _)]
    rw [fm_sum]
    apply sumR_congr
    intro j _
    unfold szr
    cases L[j]? <;> rfl

/-! ### Code read again -/
theorem num_be : ∀ (w : Nat) (v : Int), (num (be w v) : Int) = v % 256 ^ w
  | 0, v => by simp [be, num]
  | w + 1, v => by
    have key : be (w + 1) v = be w (v / 256) ++ [toU8 v] := by
      unfold be
      rw [List.range_succ_eq_map, List.reverse_cons, List.map_append, ← List.map_reverse, List.map_map]
      congr 1
      · apply List.map_congr_left
        intro i _
        show toU8 (v / 256 ^ (i + 1)) = toU8 (v / 256 / 256 ^ i)
        rw [Int.pow_succ, Int.mul_comm, ← Int.ediv_ediv_of_nonneg (by decide)]
      · simp
    rw [key, num_snoc, Int.natCast_add, Int.natCast_mul, num_be w (v / 256), toU8_toNat]
    have e : (v / 256) % 256 ^ w = (v / 256) - 256 ^ w * ((v / 256) / 256 ^ w) := Int.emod_def _ _
    have e2 : v % 256 ^ (w + 1) = v - 256 ^ (w + 1) * (v / 256 ^ (w + 1)) := Int.emod_def _ _
    have e3 : v / 256 ^ (w + 1) = (v / 256) / 256 ^ w := by rw [Int.pow_succ, Int.mul_comm, ← Int.ediv_ediv_of_nonneg (by decide)]
    rw [e, e2, e3, Int.pow_succ]
    generalize (v / 256) / 256 ^ w = q
    generalize (256 : Int) ^ w = p
    have : p * 256 * q = 256 * (p * q) := by rw [Int.mul_comm p 256, Int.mul_assoc]
    rw [this, show ((256 : Nat) : Int) = 256 from rfl, Int.mul_sub]
    omega
theorem sgn_be {op : UInt8} {w : Nat} {v : Int} (h : fit op w v) : sgn w (num (be w v)) = v := by
  have hn := num_be w v
  unfold sgn
  rcases h with ⟨rfl, rfl⟩ | ⟨rfl, h1, h2, h3⟩ | ⟨rfl, h1, h2⟩ | ⟨rfl, h1, h2⟩
  · rw [if_neg (by omega), hn]; simp
  · rw [if_neg (by omega), hn, show (256 : Int) ^ 1 = 256 from rfl]; omega
  · rw [if_neg (by omega), hn, show (256 : Int) ^ 2 = 65536 from rfl]; omega
  · rw [show (256 : Int) ^ 4 = 4294967296 from rfl] at hn
    split <;> omega
theorem cod_split {l : List It} : ∀ (n i : Nat), i < n → ∃ rest, cod l n = cod l i ++ (ec l i ++ rest)
  | 0, i, h => absurd h (by omega)
  | n + 1, i, h => by
    by_cases e : i = n
    · subst e; exact ⟨[], by rw [List.append_nil]; rfl⟩
    · obtain ⟨rest, hr⟩ := cod_split (l := l) n i (by omega)
      exact ⟨rest ++ ec l n, by rw [cod, hr]; simp⟩
theorem rescan_law (l : List It) (h : Good l) (hle : ad l l.length ≤ 4096) : ∃ r, provisoref05_Scan (cod l l.length) = some (r, 0, 0) ∧ Scanned (cod l l.length) r ∧ Fine r ∧ r.length = l.length ∧ ∀ (i : Nat) x, l[i]? = some x → r[i]? = some (lay l i x) := by
  obtain ⟨r, _, r2, r3⟩ := laid_law l h
  have hN := h.le
  have hclen := cod_len h l.length (Nat.le_refl _)
  have hadr : ∀ i, i ≤ l.length → adr r i = ad l i := fun i hi => by
    apply sumR_congr
    intro j hj
    obtain ⟨x, hx⟩ := get_of (l := l) (i := j) (by omega)
    unfold szr sz
    rw [r3 j x hx, hx]
    rfl
  have hgot : ∀ (j : Nat) x, r[j]? = some x → Got (cod l l.length) (adr r j) x := fun j y hy => by
    have hj := get_lt hy
    rw [r2] at hj
    obtain ⟨x, hx⟩ := get_of hj
    rw [r3 j x hx] at hy
    cases hy
    obtain ⟨f1, f2, f3⟩ := h.fits hx
    rw [hadr j (by omega)]
    refine ⟨rfl, f1, f2, f3, ?_⟩
    rw [hclen]
    show ad l j + siz x.in_.Op ≤ _
    rw [← ad_succ hx]
    by_cases e : j + 1 = l.length
    · rw [e]; exact Nat.le_refl _
    · exact Nat.le_of_lt (ad_lt h (by omega) (Nat.le_refl _))
  have hscan : Scanned (cod l l.length) r := ⟨hgot, by rw [r2, hadr _ (Nat.le_refl _), hclen]⟩
  refine ⟨r, ?_, hscan, ⟨fun y hy hj => ?_, ?_⟩, r2, r3⟩
  · unfold provisoref05_Scan
    rw [if_neg (by simp; omega)]
    have hgo : loopO (provisoref05_Scan_b0 (cod l l.length)) (([] : List S_api_Instr), 0) = some (.inr r) := by
      refine loop_at l.length (fun i => (r.take i, (ad l i : Int))) (fun i hi => ?_) ?_ (by simp [ad, sumR])
      · obtain ⟨x, hx⟩ := get_of hi
        obtain ⟨f1, f2, f3⟩ := h.fits hx
        have hlt : ad l i < (cod l l.length).length := by rw [hclen]; exact ad_lt h hi (Nat.le_refl _)
        have hg := (hgot i _ (r3 i x hx)).le
        rw [hadr i (by omega)] at hg
        obtain ⟨rest, hr⟩ := cod_split (l := l) l.length i hi
        have e : ec l i = enc x.in_.Op (opA l x) x.in_.B := by unfold ec; rw [hx]
        have hcl := cod_len h i (by omega)
        have hdrop : ∀ k, (cod l l.length).drop (ad l i + k) = (ec l i ++ rest).drop k := fun k => by
          rw [hr, ← hcl, List.drop_append]
          simp
        have hop : (cod l l.length)[ad l i]? = some x.in_.Op := by
          have := congrArg List.head? (hdrop 0)
          rw [Nat.add_zero, List.drop_zero, List.head?_drop] at this
          rw [this, e]; rfl
        have hop' : (cod l l.length)[ad l i] = x.in_.Op := by
          rw [List.getElem?_eq_getElem hlt] at hop
          exact Option.some.inj hop
        have hs := siz_pos f1
        have hsv : siz x.in_.Op = 1 + (wid x.in_.Op).1 + (wid x.in_.Op).2 := by unfold siz; rw [if_neg (by omega)]
        have hA : ((cod l l.length).drop (ad l i + 1)).take (wid x.in_.Op).1 = be (wid x.in_.Op).1 (opA l x) := by
          rw [hdrop 1, e]
          unfold enc
          rw [List.cons_append, List.drop_succ_cons, List.drop_zero, List.append_assoc, List.take_append_of_le_length (by rw [be_len]; exact Nat.le_refl _)]
          exact List.take_of_length_le (by rw [be_len]; exact Nat.le_refl _)
        have hB : ((cod l l.length).drop (ad l i + 1 + (wid x.in_.Op).1)).take (wid x.in_.Op).2 = be (wid x.in_.Op).2 x.in_.B := by
          rw [show ad l i + 1 + (wid x.in_.Op).1 = ad l i + ((wid x.in_.Op).1 + 1) by omega, hdrop, e]
          unfold enc
          rw [List.cons_append, List.drop_succ_cons, List.append_assoc, List.drop_append_of_le_length (by rw [be_len]; exact Nat.le_refl _), List.drop_of_length_le (by rw [be_len]; exact Nat.le_refl _), List.nil_append, List.take_append_of_le_length (by rw [be_len]; exact Nat.le_refl _)]
          exact List.take_of_length_le (by rw [be_len]; exact Nat.le_refl _)
        have hdec : dec (cod l l.length) (ad l i) x.in_.Op = (lay l i x, 0) := by
          unfold dec
          have n1 : ¬ siz x.in_.Op = 0 := by omega
          have n2 : ¬ (cod l l.length).length < ad l i + siz x.in_.Op := by
            have : siz (lay l i x).Op = siz x.in_.Op := rfl
            omega
          rw [if_neg n1, if_neg n2]
          dsimp only
          rw [hA, hB, sgn_be f2, sgn_be f3]
          have n3 : ¬ (x.in_.Op.toNat = 2 ∧ 1 < opA l x) := by
            rintro ⟨o, hlt⟩
            have hw1 : (wid x.in_.Op).1 = 1 := by unfold wid; rw [o]; rfl
            rw [hw1] at f2
            rcases f2 with ⟨f, _⟩ | ⟨_, _, _, f⟩ | ⟨f, _⟩ | ⟨f, _⟩
            · omega
            · have := f o; omega
            · omega
            · omega
          rw [if_neg n3]
          rfl
        have hal := ad_le l i
        have hsl := siz_le x.in_.Op
        unfold provisoref05_Scan_b0
        dsimp only
        rw [if_pos (decide_eq_true (by omega)), dec_ref _ (by simp only [big]; omega) _ hlt, Option.bind_some, hop', hdec]
        dsimp only
        rw [if_neg (by decide), app_ok (by simp; omega), Option.bind_some, show (lay l i x).Op = x.in_.Op from rfl, size_law, Option.bind_some, wr_id (by omega) (by omega)]
        have et : r.take (i + 1) = r.take i ++ [lay l i x] := by rw [List.take_add_one, r3 i x hx]; rfl
        rw [et, ad_succ hx, Int.natCast_add]
        rfl
      · unfold provisoref05_Scan_b0
        dsimp only
        rw [if_neg (by simp; omega), ← r2, List.take_length]
    rw [hgo]; rfl
  · obtain ⟨i, hi⟩ := List.getElem?_of_mem hy
    have hil := get_lt hi
    rw [r2] at hil
    obtain ⟨x, hx⟩ := get_of hil
    rw [r3 i x hx] at hi
    cases hi
    have hj' : jmp x.in_.Op = true := hj
    have hto := (h.at_ hx).1.j hj'
    refine ⟨x.to.toNat, by omega, ?_⟩
    rw [hadr _ (by omega)]
    unfold lay
    dsimp only
    rw [if_pos hj']
  · obtain ⟨x, hx, he⟩ := h.last
    exact ⟨lay l (l.length - 1) x, by rw [r2]; exact r3 _ x hx, he⟩
theorem again_abs (l : List It) (h : Good l) (r : List S_api_Instr) (hr : r.length = l.length) (hrl : ∀ (i : Nat) x, l[i]? = some x → r[i]? = some (lay l i x)) {b : List UInt8} (hs : Scanned b r) (m : List (Int × Int)) (hm : Places r m) : (r.map (itm m)).map abs = l.map abs := by
  have hadr : ∀ i, i ≤ l.length → adr r i = ad l i := fun i hi => by
    apply sumR_congr
    intro j hj
    obtain ⟨x, hx⟩ := get_of (l := l) (i := j) (by omega)
    unfold szr sz
    rw [hrl j x hx, hx]
    rfl
  apply List.ext_getElem?
  intro i
  by_cases hi : i < l.length
  · obtain ⟨x, hx⟩ := get_of hi
    rw [List.getElem?_map, List.getElem?_map, hrl i x hx, List.getElem?_map, hx, Option.map_some, Option.map_some, Option.map_some]
    congr 1
    cases hj : jmp x.in_.Op
    · rw [abs_n hj, abs_n (x := itm m (lay l i x)) hj]
      show (⟨x.in_.Op, (lay l i x).A, x.in_.B, -1⟩ : Is) = _
      unfold lay
      rw [if_neg (by simp [hj])]
    · have hto := (h.at_ hx).1.j hj
      have eA : (lay l i x).A = (ad l x.to.toNat : Int) := by unfold lay; rw [if_pos hj]
      have et : (itm m (lay l i x)).to = x.to := by
        unfold itm
        dsimp only
        rw [show jmp (lay l i x).Op = true from hj, if_pos rfl, eA, ← hadr _ (by omega), hm.1 _ (by omega)]
        exact Int.toNat_of_nonneg hto.1
      rw [abs_j hj, abs_j (x := itm m (lay l i x)) hj, et]
      rfl
  · rw [List.getElem?_eq_none (by simp; omega), List.getElem?_eq_none (by simp; omega)]
end Go.Proofs.Ytmeodoidfpcjlaa
