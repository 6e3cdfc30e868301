/- Plain law of Opt: the code of a list. -/
import Derived.Test.YtmeodoidfpcjlaaLok
set_option linter.unusedVariables false
set_option linter.unusedSimpArgs false
namespace Go.Proofs.Ytmeodoidfpcjlaa
open Go Go.RowKit Go.Pv

/-- A number's bytes, the highest first. -/
def be (w : Nat) (v : Int) : List UInt8 := ((List.range w).reverse).map fun i => toU8 (v / 256 ^ i)
theorem be_succ (k : Nat) (v : Int) : be (k + 1) v = toU8 (v / 256 ^ k) :: be k v := by unfold be; rw [List.range_succ, List.reverse_append]; rfl
theorem be_len (w : Nat) (v : Int) : (be w v).length = w := by unfold be; simp
theorem put_code (v : Int) : ∀ (k : Nat) (acc : List UInt8), k ≤ 4 → acc.length + k ≤ 1000 → loopO (code_put_b0 v) (acc, (k : Int) - 1) = some (acc ++ be k v)
  | 0, acc, _, _ => by
    refine loopO_stop ?_
    unfold code_put_b0
    rw [if_neg (by simp)]
    simp [be]
  | k + 1, acc, hk, ha => by
    have e1 : ((k + 1 : Nat) : Int) - 1 = (k : Int) := by omega
    have e2 : wr (8 * (k : Int)) = ((8 * k : Nat) : Int) := by rw [wr_id] <;> omega
    have e3 : wr ((k : Int) - 1) = (k : Int) - 1 := by rw [wr_id] <;> omega
    have e4 : sShr .i64 v ((8 * k : Nat) : Int) = v / 256 ^ k := by
      unfold sShr
      rw [show min (((8 * k : Nat) : Int)).toNat IntKind.i64.bits = 8 * k from by simp [IntKind.bits]; omega]
      rw [Int.fdiv_eq_ediv_of_nonneg _ (Int.le_of_lt (Int.pow_pos (by decide))), Int.pow_mul]
      rfl
    rw [e1, loopO_step (s' := (acc ++ [toU8 (v / 256 ^ k)], (k : Int) - 1)), put_code v k (acc ++ [toU8 (v / 256 ^ k)]) (by omega) (by simp; omega), be_succ, List.append_assoc]
    · rfl
    · unfold code_put_b0
      dsimp only
      have c1 : ¬ decide (((8 * k : Nat) : Int) < 0) = true := fun hc => absurd (of_decide_eq_true hc) (by omega)
      rw [if_pos (decide_eq_true (by omega)), e2, if_neg c1, e3, e4, app_ok (by simp; omega), Option.bind_some]
theorem put_code_law (acc : List UInt8) (v : Int) (w : Nat) (hw : w ≤ 4) (ha : acc.length ≤ 900) : code_put acc v (w : Int) = some (acc ++ be w v) := by
  unfold code_put
  rw [wr_id (by omega) (by omega), put_code v w acc hw (by omega)]; rfl
theorem shr_ref (u : Nat) (hu : u < 4294967296) (l : List UInt8) (k : Nat) (hk : k ≤ 4) : loopO (provisoref04_put_b0 (l, (k : Int))) ((u : Int), 0) = some ((u / 256 ^ k : Nat) : Int) := by
  refine loop_at k (fun j => (((u / 256 ^ j : Nat) : Int), (j : Int))) (fun j hj => ?_) ?_ (by simp)
  · unfold provisoref04_put_b0
    dsimp only
    have h1 : u / 256 ^ j ≤ u := Nat.div_le_self _ _
    have e : IntKind.i64.wrap (Int.tdiv ((u / 256 ^ j : Nat) : Int) 256) = ((u / 256 ^ (j + 1) : Nat) : Int) := by
      rw [Nat.pow_succ, ← Nat.div_div_eq_div_mul]
      generalize u / 256 ^ j = y at h1
      rw [Int.tdiv_eq_ediv_of_nonneg (by omega), IntKind.wrap_i64]
      omega
    rw [if_pos (decide_eq_true (by omega)), e, wr1 (by omega)]
  · unfold provisoref04_put_b0
    dsimp only
    rw [if_neg (by simp)]
theorem digit (v : Int) (u : Nat) (h : (u : Int) = v ∨ (u : Int) = v + 4294967296) (k : Nat) (hk : k ≤ 3) : toU8 (Int.tmod ((u / 256 ^ k : Nat) : Int) 256) = toU8 (v / 256 ^ k) := by
  unfold toU8
  congr 2
  rw [Int.tmod_eq_emod_of_nonneg (Int.natCast_nonneg _), Int.natCast_ediv, Int.natCast_pow]
  have : k = 0 ∨ k = 1 ∨ k = 2 ∨ k = 3 := by omega
  rcases this with rfl | rfl | rfl | rfl
  · simp only [Int.pow_zero]; omega
  · simp only [show ((256 : Nat) : Int) ^ 1 = 256 from rfl, show (256 : Int) ^ 1 = 256 from rfl]; omega
  · simp only [show ((256 : Nat) : Int) ^ 2 = 65536 from rfl, show (256 : Int) ^ 2 = 65536 from rfl]; omega
  · simp only [show ((256 : Nat) : Int) ^ 3 = 16777216 from rfl, show (256 : Int) ^ 3 = 16777216 from rfl]; omega
theorem put_ref (v : Int) (u : Nat) (hu : u < 4294967296) (h : (u : Int) = v ∨ (u : Int) = v + 4294967296) : ∀ (k : Nat) (acc : List UInt8), k ≤ 4 → acc.length + k ≤ 1000 → loopO (provisoref04_put_b1 (u : Int)) (acc, (k : Int) - 1) = some (acc ++ be k v)
  | 0, acc, _, _ => by
    refine loopO_stop ?_
    unfold provisoref04_put_b1
    rw [if_neg (by simp)]
    simp [be]
  | k + 1, acc, hk, ha => by
    have e1 : ((k + 1 : Nat) : Int) - 1 = (k : Int) := by omega
    have e3 : wr ((k : Int) - 1) = (k : Int) - 1 := by rw [wr_id] <;> omega
    rw [e1, loopO_step (s' := (acc ++ [toU8 (v / 256 ^ k)], (k : Int) - 1)), put_ref v u hu h k (acc ++ [toU8 (v / 256 ^ k)]) (by omega) (by simp; omega), be_succ, List.append_assoc]
    · rfl
    · unfold provisoref04_put_b1
      dsimp only
      rw [if_pos (decide_eq_true (by omega)), shr_ref u hu acc k (by omega), Option.bind_some, e3, app_ok (by simp; omega), Option.bind_some, digit v u h k (by omega)]
theorem put_ref_law (acc : List UInt8) (v : Int) (w : Nat) (hw : w ≤ 4) (ha : acc.length ≤ 900) (h1 : -4294967296 ≤ v) (h2 : v < 4294967296) : provisoref04_put acc v (w : Int) = some (acc ++ be w v) := by
  unfold provisoref04_put
  by_cases hv : v < 0
  · have e : wr (v + 4294967296) = (((v + 4294967296).toNat : Nat) : Int) := by rw [wr_id] <;> omega
    rw [if_pos (decide_eq_true hv), Option.bind_some, wr_id (n := (w : Int) - 1) (by omega) (by omega), e, put_ref v _ (by omega) (.inr (by omega)) w acc hw (by omega)]; rfl
  · have e : v = ((v.toNat : Nat) : Int) := by omega
    rw [if_neg (by simpa using hv), Option.bind_some, wr_id (n := (w : Int) - 1) (by omega) (by omega)]
    have := put_ref v v.toNat (by omega) (.inl (by omega)) w acc hw (by omega)
    rw [← e] at this
    rw [this]; rfl

/-! ### Encode -/
def enc (op : UInt8) (A B : Int) : List UInt8 := op :: (be (wid op).1 A ++ be (wid op).2 B)
theorem enc_len {op : UInt8} (h : op.toNat < 34) (A B : Int) : (enc op A B).length = siz op := by
  unfold enc siz
  rw [if_neg (by omega), List.length_cons, List.length_append, be_len, be_len]; omega
theorem fits_code {op : UInt8} {w : Nat} {v : Int} (h : fit op w v) : code_fits op v (w : Int) = some true := by
  unfold code_fits
  rcases h with ⟨rfl, rfl⟩ | ⟨rfl, h1, h2, h3⟩ | ⟨rfl, h1, h2⟩ | ⟨rfl, h1, h2⟩
  · rfl
  · have c1 : decide (v ≥ 0) = true := decide_eq_true h1
    have c2 : decide (v ≤ 255) = true := decide_eq_true h2
    rw [if_neg (by decide), if_pos (by decide), if_pos c1, if_pos c2]
    by_cases o : op.toNat = 2
    · have c3 : decide (v ≤ 1) = true := decide_eq_true (h3 o)
      rw [if_neg (by simp [o]), c3]
    · have e : ((op.toNat : Int) != 2) = true := by rw [bne_iff_ne]; omega
      rw [if_pos e]
  · have c1 : decide (v ≥ 0) = true := decide_eq_true h1
    have c2 : decide (v ≤ 65535) = true := decide_eq_true h2
    rw [if_neg (by decide), if_neg (by decide), if_pos (by decide), if_pos c1, c2]
  · have c1 : decide (v ≥ -2147483648) = true := decide_eq_true h1
    have c2 : decide (v ≤ 2147483647) = true := decide_eq_true h2
    rw [if_neg (by decide), if_neg (by decide), if_neg (by decide), if_pos c1, c2]
theorem fits_ref {op : UInt8} {w : Nat} {v : Int} (h : fit op w v) : provisoref04_fits v (w : Int) = some true := by
  unfold provisoref04_fits
  rcases h with ⟨rfl, rfl⟩ | ⟨rfl, h1, h2, h3⟩ | ⟨rfl, h1, h2⟩ | ⟨rfl, h1, h2⟩
  · rfl
  · have c1 : decide (v ≥ 0) = true := decide_eq_true h1
    have c2 : decide (v ≤ 255) = true := decide_eq_true h2
    rw [if_neg (by decide), if_pos (by decide), if_pos c1, c2]
  · have c1 : decide (v ≥ 0) = true := decide_eq_true h1
    have c2 : decide (v ≤ 65535) = true := decide_eq_true h2
    rw [if_neg (by decide), if_neg (by decide), if_pos (by decide), if_pos c1, c2]
  · have c1 : decide (v ≥ -2147483648) = true := decide_eq_true h1
    have c2 : decide (v ≤ 2147483647) = true := decide_eq_true h2
    rw [if_neg (by decide), if_neg (by decide), if_neg (by decide), if_pos c1, c2]
theorem fit_range {op : UInt8} {w : Nat} {v : Int} (h : fit op w v) : -2147483648 ≤ v ∧ v ≤ 2147483647 := by
  rcases h with ⟨_, _⟩ | ⟨_, _, _, _⟩ | ⟨_, _, _⟩ | ⟨_, _, _⟩ <;> omega
theorem encode_code (at_ : Int) (op : UInt8) (A B : Int) (h : op.toNat < 34) (fa : fit op (wid op).1 A) (fb : fit op (wid op).2 B) : code_Encode ⟨at_, op, A, B⟩ = some (enc op A B, 0) := by
  have hs := siz_pos h
  have hw := wid_le op
  have hz : ((siz op : Int) == 0) = false := by rw [beq_eq_false_iff_ne]; omega
  unfold code_Encode
  simp only [size_code, widths_eq, wide_law, Option.bind_some, hz, Bool.false_eq_true, if_false, fits_code fa, fits_code fb, Bool.not_true]
  rw [put_code_law _ _ _ hw.1 (by simp), Option.bind_some, put_code_law _ _ _ (by omega) (by simp [be_len]; omega), Option.bind_some]
  unfold enc
  simp
theorem encode_ref (at_ : Int) (op : UInt8) (A B : Int) (h : op.toNat < 34) (fa : fit op (wid op).1 A) (fb : fit op (wid op).2 B) : provisoref04_Encode ⟨at_, op, A, B⟩ = some (enc op A B, 0) := by
  have hs := siz_pos h
  have hw := wid_le op
  have hz : ((siz op : Int) == 0) = false := by rw [beq_eq_false_iff_ne]; omega
  have ra := fit_range fa
  have rb := fit_range fb
  have e2 : ((op.toNat : Int) == 2) = decide (op.toNat = 2) := nat_beq _ 2
  have pa := put_ref_law [op] A (wid op).1 hw.1 (by simp) (by omega) (by omega)
  have pb := put_ref_law ([op] ++ be (wid op).1 A) B (wid op).2 (by omega) (by simp [be_len]; omega) (by omega) (by omega)
  unfold provisoref04_Encode
  simp only [size_law, wide_law, Option.bind_some, hz, Bool.false_eq_true, if_false, fits_ref fa, fits_ref fb, Bool.not_true, pa, pb, e2]
  have fin : ([op] ++ be (wid op).1 A ++ be (wid op).2 B : List UInt8) = enc op A B := by unfold enc; simp
  rw [fin]
  by_cases o : op.toNat = 2
  · have hA : A ≤ 1 := by
      have hw1 : (wid op).1 = 1 := by unfold wid; rw [o]; rfl
      rw [hw1] at fa
      rcases fa with ⟨f, _⟩ | ⟨_, _, _, f⟩ | ⟨f, _⟩ | ⟨f, _⟩
      · omega
      · exact f o
      · omega
      · omega
    have c : ¬ decide (A > 1) = true := fun hc => absurd (of_decide_eq_true hc) (by omega)
    rw [if_pos (by simp [o]), if_neg c]
  · rw [if_neg (by simp [o])]

/-! ### All of them -/
def opA (l : List It) (x : It) : Int := if jmp x.in_.Op = true then (ad l x.to.toNat : Int) else x.in_.A
def ec (l : List It) (i : Nat) : List UInt8 := match l[i]? with | some x => enc x.in_.Op (opA l x) x.in_.B | none => []
def cod (l : List It) : Nat → List UInt8
  | 0 => []
  | i + 1 => cod l i ++ ec l i
theorem Good.fits {l : List It} (h : Good l) {i : Nat} {x : It} (hx : l[i]? = some x) : x.in_.Op.toNat < 34 ∧ fit x.in_.Op (wid x.in_.Op).1 (opA l x) ∧ fit x.in_.Op (wid x.in_.Op).2 x.in_.B := by
  obtain ⟨hok, hg⟩ := h.at_ hx
  have hp := hok.p
  have ho := hp.op
  have fa := hp.fa
  have fb := hp.fb
  rw [abs_op] at ho fa fb
  rw [abs_b] at fb
  refine ⟨ho, ?_, fb⟩
  unfold opA
  cases hj : jmp x.in_.Op
  · rw [if_neg (by simp)]
    rw [abs_n hj] at fa
    exact fa
  · rw [if_pos rfl]
    have hto := hok.j hj
    have := ad_le l x.to.toNat
    have hle := h.le
    refine .inr (.inr (.inl ⟨?_, by omega, by omega⟩))
    unfold jmp at hj
    rw [Bool.or_eq_true, beq_iff_eq, beq_iff_eq] at hj
    unfold wid
    rcases hj with o | o <;> rw [o] <;> rfl
theorem cod_len {l : List It} (h : Good l) : ∀ i, i ≤ l.length → (cod l i).length = ad l i
  | 0, _ => rfl
  | i + 1, hi => by
    obtain ⟨x, hx⟩ := get_of (l := l) (i := i) (by omega)
    have e : ec l i = enc x.in_.Op (opA l x) x.in_.B := by unfold ec; rw [hx]
    rw [ad_succ hx, cod, List.length_append, cod_len h i (by omega), e, enc_len (h.fits hx).1]
theorem all_law (l : List It) (h : Good l) (r : List S_api_Instr) (hr : r.length = l.length) (hrl : ∀ (i : Nat) x, l[i]? = some x → r[i]? = some (lay l i x)) : code_All r = some (cod l l.length, 0, 0) := by
  have hle := h.le
  have hgo : loopO (code_All_b0 r) (([] : List UInt8), 0) = some (.inr (cod l l.length)) := by
    refine loop_at l.length (fun i => (cod l i, (i : Int))) (fun i hi => ?_) ?_ rfl
    · obtain ⟨x, hx⟩ := get_of hi
      obtain ⟨f1, f2, f3⟩ := h.fits hx
      have hl := cod_len h i (by omega)
      have hal := ad_le l i
      have hel := enc_len f1 (opA l x) x.in_.B
      have hsl := siz_le x.in_.Op
      have e : ec l i = enc x.in_.Op (opA l x) x.in_.B := by unfold ec; rw [hx]
      have el : (⟨(lay l i x).At, (lay l i x).Op, (lay l i x).A, (lay l i x).B⟩ : S_api_Instr) = ⟨(ad l i : Int), x.in_.Op, opA l x, x.in_.B⟩ := rfl
      unfold code_All_b0
      have cL : decide ((i : Int) < (r.length : Int)) = true := decide_eq_true (by omega)
      have c4 : ¬ decide ((((cod l i).length : Int) + ((enc x.in_.Op (opA l x) x.in_.B).length : Int)) > 4096) = true := fun hc => absurd (of_decide_eq_true hc) (by omega)
      simp only [cL, if_true, idxs (hrl i x hx), Option.bind_some, el, encode_code _ _ _ _ f1 f2 f3, wr1 (show i < 4611686018427387904 by omega)]
      rw [if_pos (by decide), wr_id (by omega) (by omega), if_neg c4, Option.bind_some, if_neg (by decide), app_ok (by omega), Option.bind_some]
      rw [cod, e]
    · unfold code_All_b0
      dsimp only
      rw [if_neg (by simp; omega)]
  unfold code_All
  rw [hgo]; rfl
theorem write_law (l : List It) (h : Good l) : provisoref19_write (l.map abs) = some (cod l l.length) := by
  have hle := h.le
  unfold provisoref19_write
  obtain ⟨o, o1, o2, o3⟩ := loop_inv l.length (body := provisoref19_write_b0 (l.map abs)) (fun i s => s.1.length = i ∧ s.2.1 = (ad l i : Int) ∧ s.2.2 = (i : Int) ∧ ∀ j, j < i → s.1[j]? = some (ad l j : Int))
    (Post := fun r => r.length = l.length ∧ ∀ j, j < l.length → r[j]? = some (ad l j : Int)) (fun i s hi hs => by
    obtain ⟨acc, a, k⟩ := s
    obtain ⟨a1, a2, a3, a4⟩ := hs
    dsimp only at a1 a2 a3 a4
    subst a2; subst a3
    obtain ⟨x, hx⟩ := get_of hi
    have hx' : (l.map abs)[i]? = some (abs x) := by rw [List.getElem?_map, hx]; rfl
    have hal := ad_le l i
    have hsl := siz_le x.in_.Op
    unfold provisoref19_write_b0
    have cL : decide ((i : Int) < ((l.map abs).length : Int)) = true := by rw [List.length_map]; exact decide_eq_true (by omega)
    simp only [cL, if_true, idxs hx', Option.bind_some, wr1 (show i < 4611686018427387904 by omega), size_law, abs_op]
    rw [app_ok (by simp; omega), Option.bind_some, wr_id (by omega) (by omega)]
    refine ⟨_, rfl, by simp [a1], ?_, rfl, fun j hj => ?_⟩
    · show (ad l i : Int) + (siz x.in_.Op : Int) = (ad l (i + 1) : Int)
      rw [ad_succ hx]
      omega
    · dsimp only
      by_cases e : j = i
      · subst e
        rw [List.getElem?_append_right (by omega), a1]; simp
      · rw [List.getElem?_append_left (by omega)]
        exact a4 j (by omega)) (fun s hs => by
    obtain ⟨acc, a, k⟩ := s
    obtain ⟨a1, a2, a3, a4⟩ := hs
    dsimp only at a1 a2 a3 a4
    subst a2; subst a3
    refine ⟨acc, ?_, a1, a4⟩
    unfold provisoref19_write_b0
    rw [if_neg (by simp)]) (s := ([], 0, 0)) ⟨rfl, rfl, rfl, fun j hj => absurd hj (by omega)⟩
  rw [o1, Option.bind_some]
  have hgo : loopO (provisoref19_write_b1 (l.map abs) o) (([] : List UInt8), 0) = some (cod l l.length) := by
    refine loop_at l.length (fun i => (cod l i, (i : Int))) (fun i hi => ?_) ?_ rfl
    · obtain ⟨x, hx⟩ := get_of hi
      have hx' : (l.map abs)[i]? = some (abs x) := by rw [List.getElem?_map, hx]; rfl
      obtain ⟨f1, f2, f3⟩ := h.fits hx
      have hl := cod_len h i (by omega)
      have hal := ad_le l i
      have hel := enc_len f1 (opA l x) x.in_.B
      have hsl := siz_le x.in_.Op
      have e : ec l i = enc x.in_.Op (opA l x) x.in_.B := by unfold ec; rw [hx]
      unfold provisoref19_write_b1
      have cL : decide ((i : Int) < ((l.map abs).length : Int)) = true := by rw [List.length_map]; exact decide_eq_true (by omega)
      simp only [cL, if_true, idxs hx', Option.bind_some, wr1 (show i < 4611686018427387904 by omega)]
      cases hj : jmp x.in_.Op
      · rw [abs_n hj]
        dsimp only
        have eA : opA l x = x.in_.A := by unfold opA; rw [if_neg (by simp [hj])]
        rw [eA] at f2 e hel
        rw [if_neg (by simp), encode_ref _ _ _ _ f1 f2 f3, Option.bind_some, app_ok (by dsimp only; omega), Option.bind_some]
        rw [cod, e]
      · have hto := (h.at_ hx).1.j hj
        rw [abs_j hj]
        dsimp only
        have eA : opA l x = (ad l x.to.toNat : Int) := by unfold opA; rw [if_pos hj]
        rw [eA] at f2 e hel
        rw [if_pos (decide_eq_true hto.1), idxz hto.1 (o3 _ (by omega)), Option.bind_some, encode_ref _ _ _ _ f1 f2 f3, Option.bind_some, app_ok (by dsimp only; omega), Option.bind_some]
        rw [cod, e]
    · unfold provisoref19_write_b1
      dsimp only
      rw [if_neg (by simp)]
  rw [hgo]; rfl
end Go.Proofs.Ytmeodoidfpcjlaa
