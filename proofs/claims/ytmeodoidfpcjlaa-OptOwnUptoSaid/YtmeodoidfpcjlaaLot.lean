/- The plain law of OptOwn. -/
import Derived.Test.YtmeodoidfpcjlaaLsh
set_option linter.unusedVariables false
set_option linter.unusedSimpArgs false
namespace Go.Proofs.Ytmeodoidfpcjlaa
open Go Go.RowKit Go.Pv
theorem own_turned (x : List UInt8) (hx : x.length ≤ 2 * big) : ∃ r, loopO (provisolaw19_OptOwn_b0 x) (x, 0) = some r := by
  simp only [big] at hx
  obtain ⟨r, h, _⟩ := loop_inv x.length (body := provisolaw19_OptOwn_b0 x) (fun i (s : List UInt8 × Int) => s.2 = (i : Int) ∧ s.1.length = x.length) (Post := fun _ => True) (fun i s hi ⟨h1, h2⟩ => by
    obtain ⟨l, k⟩ := s
    dsimp only at h1 h2
    subst h1
    refine ⟨(l.set (i : Int).toNat 98, ((i + 1 : Nat) : Int)), ?_, rfl, by simpa using h2⟩
    unfold provisolaw19_OptOwn_b0
    dsimp only
    rw [if_pos (by simpa using hi), idx_at (by omega), Option.bind_some, wr1 (by omega)]) (fun s ⟨h1, h2⟩ => by
    obtain ⟨l, k⟩ := s
    dsimp only at h1 h2
    subst h1
    exact ⟨l, by unfold provisolaw19_OptOwn_b0; simp, trivial⟩) (s := (x, 0)) ⟨rfl, rfl⟩
  exact ⟨r, h⟩
theorem bytes_law (s : S_provisoplain_Shelf) (b : List UInt8) (h : s.bytes.length ≤ 1000) : provisoplain_Shelf_Bytes s b = some ⟨s.bytes ++ [b], s.ints⟩ := by
  unfold provisoplain_Shelf_Bytes
  rw [app_ok (by simp; omega), Option.bind_some]
theorem OptOwn_law (f : S_api_Func) (hp : f.Sig.Params.length ≤ big) : provisolaw19_OptOwn f = some true := by
  unfold provisolaw19_OptOwn
  by_cases hb : f.Code.length > 600
  · rw [if_pos (decide_eq_true (by omega))]
  · have c : ¬ decide ((f.Code.length : Int) > 600) = true := fun hc => absurd (of_decide_eq_true hc) (by omega)
    have hok : okFunc f := ⟨hp, by simp only [big]; omega⟩
    obtain ⟨res, e, q, h1, h2, h3, h4, h5⟩ := func_main f (by omega) hp
    have hp2 := h4.1
    have hc2 := h4.2
    simp only [big] at hp2 hc2
    have e1 : (⟨f.Name, (⟨f.Sig.Params, f.Sig.Result⟩ : S_api_Sig), f.Locals, f.Code⟩ : S_api_Func) = f := rfl
    have e2 : (⟨res.Name, (⟨res.Sig.Params, res.Sig.Result⟩ : S_api_Sig), res.Locals, res.Code⟩ : S_api_Func) = res := rfl
    have round : ∀ (B : List (List UInt8)) (k : Int), k < 2 → B.length ≤ 1000 → provisolaw19_OptOwn_b1 f (res, e) (B, [], k) = some (.inl (B ++ [res.Code], [], wr (k + 1))) := fun B k hk hB => by
      obtain ⟨r, hr⟩ := own_turned (res.Sig.Params ++ [99]) (by simp only [big, List.length_append, List.length_cons, List.length_nil]; omega)
      unfold provisolaw19_OptOwn_b1
      dsimp only
      rw [if_pos (decide_eq_true hk), e1, h1, Option.bind_some]
      dsimp only
      rw [if_neg (by simp), e2, sameFunc res h4, Option.bind_some, if_neg (by simp), bytes_law _ _ hB, Option.bind_some, app_ok (by simp; omega), Option.bind_some, hr, Option.bind_some]
    rw [if_neg c, e1, func_law f hok, Option.bind_some, h2, Option.bind_some]
    rw [loopO_step (round [] 0 (by decide) (by simp)), loopO_step (round _ _ (by decide) (by simp)), loopO_stop (r := .inr ([] ++ [res.Code] ++ [res.Code], [])) (by
      unfold provisolaw19_OptOwn_b1
      rfl), Option.bind_some]
    dsimp only
    rw [cloneB _ hok.2, Option.bind_some, bytes_law _ _ (by simp), Option.bind_some, e1, sameFunc f hok, Option.bind_some, if_neg (by simp), bytes_law _ _ (by simp), Option.bind_some]
    rw [own_law _ (by
      intro l hl
      simp only [List.nil_append, List.cons_append, List.mem_cons, List.mem_nil_iff, or_false, List.not_mem_nil] at hl
      simp only [big]
      rcases hl with rfl | rfl | rfl | rfl <;> omega) (by simp) (by simp) (by simp), Option.bind_some, if_neg (by simp), Option.bind_some, e1, h1, Option.bind_some]
    dsimp only
    rw [if_pos (by simp), e2, sameFunc res h4, Option.bind_some]
end Go.Proofs.Ytmeodoidfpcjlaa
