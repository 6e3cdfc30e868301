/- Func of both: what is known of what was made. -/
import Derived.Test.YtmeodoidfpcjlaaLop
set_option linter.unusedVariables false
set_option linter.unusedSimpArgs false
namespace Go.Proofs.Ytmeodoidfpcjlaa
open Go Go.RowKit Go.Pv

def noFunc : S_api_Func := ⟨[], ⟨[], 0⟩, 0, []⟩
theorem ok_no : okFunc noFunc := ⟨by simp [noFunc], by simp [noFunc]⟩
/-- What is known of code that was made. -/
structure Done (b g : List UInt8) : Prop where
  pos : 0 < g.length
  le : g.length ≤ b.length
  scan : ∃ r L, provisoref05_Scan g = some (r, 0, 0) ∧ provisoref05_Scan b = some (L, 0, 0) ∧ r.length ≤ L.length
  check : ∃ p, flow_Check g = some (p, 0)
  again : ∀ (n : List UInt8) (s : S_api_Sig) (k : Int), s.Params.length ≤ big → opt_Func ⟨n, s, k, g⟩ = some (⟨n, s, k, g⟩, 0)
theorem pair_eta {α β : Type} (p : α × β) (b : β) (h : p.2 = b) : p = (p.1, b) := by cases p; cases h; rfl
theorem c0 : ¬ ((0 : Int) != 0) = true := by decide
theorem func_main (f : S_api_Func) (hb : f.Code.length ≤ 600) (hp : f.Sig.Params.length ≤ big) : ∃ res e q, opt_Func f = some (res, e) ∧ provisoref19_Func f = some (res, e) ∧ provisoref05_Check f.Code = some (q, e) ∧ okFunc res ∧ (e = 0 → ∃ g, res = ⟨f.Name, f.Sig, f.Locals, g⟩ ∧ Done f.Code g) := by
  have hp' := hp
  simp only [big] at hp'
  obtain ⟨⟨q, e⟩, c1, c2, c3, _⟩ := check_law f.Code (by omega)
  dsimp only at c3
  by_cases he : e = 0
  · subst he
    obtain ⟨L, s1, s2, s3⟩ := c3 rfl
    obtain ⟨m, i1, i2, i3, i4, i5⟩ := items_law hb s1 s2 s3
    obtain ⟨lf, r1, r2, r3, r4, r5, r6⟩ := rounds_law _ i4
    obtain ⟨r, a1, a2, a3⟩ := laid_law lf r3
    have a4 := all_law lf r3 r a2 a3
    have hclen := cod_len r3 lf.length (Nat.le_refl _)
    have hbytes : ad lf lf.length = bytes (lf.map abs) := by
      rw [bytes_range, List.length_map]
      apply sumR_congr
      intro j hj
      obtain ⟨x, hx⟩ := get_of hj
      rw [wt0 hx, sz_at hx]
    have hcl : (cod lf lf.length).length ≤ f.Code.length := by rw [hclen, hbytes]; omega
    have hcb : (cod lf lf.length).length ≤ 600 := by omega
    obtain ⟨r', b1, b2, b3, b4, b5⟩ := rescan_law lf r3 (by rw [← hclen]; omega)
    have o1 : opt_Func f = some (⟨f.Name, f.Sig, f.Locals, cod lf lf.length⟩, 0) := by
      unfold opt_Func
      rw [c1, Option.bind_some, if_neg c0, i2, Option.bind_some, r1, Option.bind_some, a1, Option.bind_some, a4, Option.bind_some, if_neg c0, app_ok (by simp; omega), Option.bind_some, List.nil_append]
    refine ⟨_, 0, q, o1, ?_, c2, ⟨hp, by simp only [big]; omega⟩, fun _ => ⟨_, rfl, ?_⟩⟩
    · unfold provisoref19_Func provisoref19_Code
      rw [c2, Option.bind_some, if_neg c0, i3, Option.bind_some, r2, Option.bind_some, Option.bind_some, if_neg c0]
    · obtain ⟨⟨q', e'⟩, d1, d2, d3, d4⟩ := check_law (cod lf lf.length) (by omega)
      have he' := d4 r' b1 b2 b3
      dsimp only at he'
      subst he'
      refine ⟨?_, hcl, ⟨r', L, b1, s1, by rw [b4]; have := r4; rw [List.length_map] at this; exact this⟩, ⟨q', d1⟩, fun n s k hs => ?_⟩
      · rw [hclen]
        have hpos := r3.pos
        exact ad_lt r3 hpos (Nat.le_refl _)
      · simp only [big] at hs
        obtain ⟨m', j1, j2, j3, j4, j5⟩ := items_law hcb b1 b2 b3
        have hab := again_abs lf r3 r' b4 b5 b2 m' j1
        obtain ⟨lk, k1, k2, k3⟩ := rounds_done _ j4 (by rw [hab]; exact r6)
        obtain ⟨rk, f1, f2, f3⟩ := laid_law lk k3
        have f4 := all_law lk k3 rk f2 f3
        have w1 := write_law lk k3
        have w2 := write_law lf r3
        rw [k2, hab, w2] at w1
        have ew := Option.some.inj w1
        unfold opt_Func
        dsimp only
        rw [d1, Option.bind_some, if_neg c0, j2, Option.bind_some, k1, Option.bind_some, f1, Option.bind_some, f4, Option.bind_some, if_neg c0, app_ok (by simp; omega), Option.bind_some, List.nil_append, ← ew]
  · have c : (e != 0) = true := by rw [bne_iff_ne]; exact he
    refine ⟨noFunc, e, q, ?_, ?_, c2, ok_no, fun hc => absurd hc he⟩
    · unfold opt_Func
      rw [c1, Option.bind_some, if_pos c]; rfl
    · unfold provisoref19_Func provisoref19_Code
      rw [c2, Option.bind_some, if_pos c, Option.bind_some, if_pos c]; rfl

end Go.Proofs.Ytmeodoidfpcjlaa
