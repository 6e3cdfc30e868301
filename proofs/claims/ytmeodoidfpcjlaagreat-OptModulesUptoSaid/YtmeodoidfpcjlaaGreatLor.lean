/- Plain laws of modules: copied, compared. -/
import Derived.Test.YtmeodoidfpcjlaaGreatLoq
set_option linter.unusedVariables false
set_option linter.unusedSimpArgs false
namespace Go.Proofs.YtmeodoidfpcjlaaGreat
open Go Go.RowKit Go.Pv
def okClass (c : S_api_Class) : Prop := c.Fields.length ≤ big
structure okModule (m : S_api_Module) : Prop where
  cl : m.Classes.length ≤ big
  fl : m.Funcs.length ≤ big
  tl : m.Certs.length ≤ big
  c : ∀ x ∈ m.Classes, okClass x
  f : ∀ x ∈ m.Funcs, okFunc x
  t : ∀ x ∈ m.Certs, x.length ≤ big
theorem cloneF (l : List S_api_Field) (h : l.length ≤ big) : slices_Clone_api_Field_api_Field l = some l := by
  unfold slices_Clone_api_Field_api_Field
  rw [app_ok (by simp only [big] at h; simp; omega)]; simp
theorem classes_law (l : List S_api_Class) (hl : l.length ≤ big) (h : ∀ x ∈ l, okClass x) : provisoplain_Classes l = some l := by
  unfold provisoplain_Classes
  rw [loop_map l id (fun i hi acc ha => by
    unfold provisoplain_Classes_b0
    simp only [big] at hl
    dsimp only
    rw [if_pos (by simpa using hi), idx_at hi, Option.bind_some, cloneF _ (h _ (List.getElem_mem hi)), Option.bind_some, app_ok (by simp; omega), Option.bind_some, wr1 (by omega)]
    rfl) (fun acc => by unfold provisoplain_Classes_b0; simp)]
  simp
theorem module_law (m : S_api_Module) (h : okModule m) : provisoplain_Module m = some m := by
  have hf := h.fl
  have ht := h.tl
  simp only [big] at hf ht
  unfold provisoplain_Module
  rw [classes_law _ h.cl h.c, Option.bind_some, Option.bind_some, loop_map m.Funcs id (fun i hi acc ha => by
    unfold provisoplain_Module_b0
    dsimp only
    rw [if_pos (by simpa using hi), idx_at hi, Option.bind_some]
    rw [show (⟨m.Funcs[i].Name, (⟨m.Funcs[i].Sig.Params, m.Funcs[i].Sig.Result⟩ : S_api_Sig), m.Funcs[i].Locals, m.Funcs[i].Code⟩ : S_api_Func) = m.Funcs[i] from rfl, func_law _ (h.f _ (List.getElem_mem hi)), Option.bind_some, app_ok (by simp; omega), Option.bind_some, wr1 (by omega)]
    rfl) (fun acc => by unfold provisoplain_Module_b0; simp), Option.bind_some, loop_map m.Certs id (fun i hi acc ha => by
    unfold provisoplain_Module_b1
    dsimp only
    rw [if_pos (by simpa using hi), idx_at hi, Option.bind_some, cloneB _ (h.t _ (List.getElem_mem hi)), Option.bind_some, app_ok (by simp; omega), Option.bind_some, wr1 (by omega)]
    rfl) (fun acc => by unfold provisoplain_Module_b1; simp), Option.bind_some]
  simp

theorem eqF (l : List S_api_Field) (h : l.length ≤ big) : slices_Equal_api_Field_api_Field l l = some true := by
  simp only [big] at h
  unfold slices_Equal_api_Field_api_Field
  rw [if_neg (by simp), loop_none l (r := .inr ()) (fun i hi => by
    unfold slices_Equal_api_Field_api_Field_b0
    rw [if_pos (by simpa using hi), idx_at hi, Option.bind_some, Option.bind_some, if_neg (by simp), wr1 (by omega)]) (by unfold slices_Equal_api_Field_api_Field_b0; simp)]
  rfl
theorem sameClasses (l : List S_api_Class) (hl : l.length ≤ big) (h : ∀ x ∈ l, okClass x) : provisoplain_SameClasses l l = some true := by
  simp only [big] at hl
  unfold provisoplain_SameClasses
  rw [if_neg (by simp), loop_none l (r := .inr ()) (fun i hi => by
    unfold provisoplain_SameClasses_b0
    rw [if_pos (by simpa using hi), idx_at hi]
    simp only [Option.bind_some]
    rw [if_neg (by simp), if_neg (by simp), eqF _ (h _ (List.getElem_mem hi)), Option.bind_some, if_neg (by simp), wr1 (by omega)]) (by unfold provisoplain_SameClasses_b0; simp)]
  rfl
theorem sameModule (m : S_api_Module) (h : okModule m) : provisoplain_SameModule m m = some true := by
  have hf := h.fl
  have ht := h.tl
  simp only [big] at hf ht
  unfold provisoplain_SameModule
  rw [if_neg (by simp), sameClasses _ h.cl h.c, Option.bind_some, if_neg (by simp), if_neg (by simp), if_neg (by simp), loop_none m.Funcs (r := .inr ()) (fun i hi => by
    unfold provisoplain_SameModule_b0
    rw [if_pos (by simpa using hi), idx_at hi]
    simp only [Option.bind_some]
    rw [sameFunc _ (h.f _ (List.getElem_mem hi)), Option.bind_some, if_neg (by simp), wr1 (by omega)]) (by unfold provisoplain_SameModule_b0; simp), Option.bind_some]
  dsimp only
  rw [loop_none m.Certs (r := .inr ()) (fun i hi => by
    unfold provisoplain_SameModule_b1
    rw [if_pos (by simpa using hi), idx_at hi]
    simp only [Option.bind_some]
    rw [eqB _ (h.t _ (List.getElem_mem hi)), Option.bind_some, if_neg (by simp), wr1 (by omega)]) (by unfold provisoplain_SameModule_b1; simp)]
  rfl

/-- A loop that may end early. -/
theorem loop_inv2 {S R : Type} (n : Nat) {body : S → Option (S ⊕ R)} (I : Nat → S → Prop) {Post : R → Prop} (hs : ∀ i s, i < n → I i s → (∃ s', body s = some (.inl s') ∧ I (i + 1) s') ∨ ∃ r, body s = some (.inr r) ∧ Post r)
    (he : ∀ s, I n s → ∃ r, body s = some (.inr r) ∧ Post r) {s : S} (h0 : I 0 s) : ∃ r, loopO body s = some r ∧ Post r := by
  have key : ∀ k i s, i + k = n → I i s → ∃ r, loopO body s = some r ∧ Post r := by
    intro k
    induction k with
    | zero =>
      intro i s hi hI
      obtain rfl : i = n := by omega
      obtain ⟨r, h1, h2⟩ := he s hI
      exact ⟨r, loopO_stop h1, h2⟩
    | succ k ih =>
      intro i s hi hI
      rcases hs i s (by omega) hI with ⟨s', h1, h2⟩ | ⟨r, h1, h2⟩
      · rw [loopO_step h1]
        exact ih (i + 1) s' (by omega) h2
      · exact ⟨r, loopO_stop h1, h2⟩
  exact key n 0 s (by omega) h0

theorem mem_of_idx {α : Type} {l : List α} {i : Int} {x : α} (h : idx l i = some x) : x ∈ l := by
  obtain ⟨_, _, h2⟩ := idx_some h
  exact List.mem_of_getElem? h2
theorem bodies_eq (m : S_api_Module) (h : ∀ f ∈ m.Funcs, opt_Func f = provisoref19_Func f) : opt_Module_b1 m = provisoref19_Module_b0 m := by
  funext s
  unfold opt_Module_b1 provisoref19_Module_b0
  rcases hx : idx m.Funcs s.2 with _ | f
  · rfl
  · simp only [Option.bind_some]
    rw [show (⟨f.Name, (⟨f.Sig.Params, f.Sig.Result⟩ : S_api_Sig), f.Locals, f.Code⟩ : S_api_Func) = f from rfl, h f (mem_of_idx hx)]
theorem size_sum (m : S_api_Module) (h : okModule m) : provisolaw19_size m = some (((m.Funcs.map fun f => f.Code.length).sum : Nat) : Int) := by
  have hf := h.fl
  simp only [big] at hf
  have hsum : ∀ l : List S_api_Func, (∀ f ∈ l, okFunc f) → (l.map fun f => f.Code.length).sum ≤ l.length * 1048576 := by
    intro l
    induction l with
    | nil => simp
    | cons f l ih =>
      intro hl
      have h1 := (hl f (by simp)).2
      have h2 := ih fun x hx => hl x (by simp [hx])
      simp only [big] at h1
      simp only [List.map_cons, List.sum_cons, List.length_cons, Nat.add_mul]
      omega
  unfold provisolaw19_size
  rw [loop_at m.Funcs.length (fun i => (((((m.Funcs.take i).map fun f => f.Code.length).sum : Nat) : Int), (i : Int))) (r := (((m.Funcs.map fun f => f.Code.length).sum : Nat) : Int)) (fun i hi => by
    have h1 := hsum (m.Funcs.take i) fun f hf => h.f f (List.mem_of_mem_take hf)
    have h2 := (h.f _ (List.getElem_mem hi)).2
    simp only [big] at h2
    rw [List.length_take] at h1
    have h3 : min i m.Funcs.length * 1048576 ≤ 1048576 * 1048576 := Nat.mul_le_mul_right _ (by omega)
    unfold provisolaw19_size_b0
    dsimp only
    rw [if_pos (by simpa using hi), idx_at hi, Option.bind_some, wr1 (by omega), take_succ_map _ _ _ hi, List.sum_append]
    rw [wr_id (by omega) (by omega)]
    simp) (by unfold provisolaw19_size_b0; simp) (by simp), Option.bind_some]
theorem sum_mem {α : Type} (w : α → Nat) : ∀ {l : List α} {x : α}, x ∈ l → w x ≤ (l.map w).sum
  | y :: l, x, h => by
    rcases List.mem_cons.1 h with rfl | h
    · simp
    · have := sum_mem w h
      simp
      omega
def noModule : S_api_Module := ⟨[], [], [], []⟩
theorem module_main (m : S_api_Module) (h : okModule m) (hs : ∀ f ∈ m.Funcs, f.Code.length ≤ 600) : ∃ res e, opt_Module m = some (res, e) ∧ provisoref19_Module m = some (res, e) ∧ okModule res := by
  have hf := h.fl
  have hc := h.cl
  simp only [big] at hf hc
  have heq : ∀ f ∈ m.Funcs, opt_Func f = provisoref19_Func f := fun f hm => by
    obtain ⟨res, e, q, h1, h2, _⟩ := func_main f (hs f hm) (h.f f hm).1
    rw [h1, h2]
  have hcl : loopO (opt_Module_b0 m) ([], 0) = some m.Classes := by
    rw [loop_map m.Classes id (fun i hi acc ha => by
      have hk := h.c _ (List.getElem_mem hi)
      simp only [okClass, big] at hk
      unfold opt_Module_b0
      dsimp only
      rw [if_pos (by simpa using hi), idx_at hi, Option.bind_some, app_ok (by simp; omega), Option.bind_some, app_ok (by simp; omega), Option.bind_some, wr1 (by omega)]
      rfl) (fun acc => by unfold opt_Module_b0; simp)]
    simp
  obtain ⟨r, hr, hP⟩ := loop_inv2 m.Funcs.length (body := provisoref19_Module_b0 m) (fun i (s : List S_api_Func × Int) => s.2 = (i : Int) ∧ s.1.length = i ∧ ∀ f ∈ s.1, okFunc f)
    (Post := fun r => (∃ e, r = .inl (noModule, e)) ∨ ∃ L : List S_api_Func, r = .inr L ∧ L.length = m.Funcs.length ∧ ∀ f ∈ L, okFunc f) (s := ([], 0))
    (fun i s hi ⟨h1, h2, h3⟩ => by
      obtain ⟨acc, k⟩ := s
      dsimp only at h1 h2 h3
      subst h1
      have hm := List.getElem_mem hi
      obtain ⟨res, e, q, _, g2, _, g4, _⟩ := func_main m.Funcs[i] (hs _ hm) (h.f _ hm).1
      unfold provisoref19_Module_b0
      dsimp only
      rw [if_pos (by simpa using hi), idx_at hi, Option.bind_some, show (⟨m.Funcs[i].Name, (⟨m.Funcs[i].Sig.Params, m.Funcs[i].Sig.Result⟩ : S_api_Sig), m.Funcs[i].Locals, m.Funcs[i].Code⟩ : S_api_Func) = m.Funcs[i] from rfl, g2, Option.bind_some]
      dsimp only
      by_cases he : (e != 0) = true
      · rw [if_pos he]
        exact .inr ⟨_, rfl, .inl ⟨e, rfl⟩⟩
      · rw [if_neg he, app_ok (by simp; omega), Option.bind_some, wr1 (by omega)]
        exact .inl ⟨_, rfl, rfl, by simp; omega, fun f hf => by
          rw [List.mem_append] at hf
          rcases hf with hf | hf
          · exact h3 f hf
          · rw [List.mem_singleton] at hf
            subst hf
            exact g4⟩)
    (fun s ⟨h1, h2, h3⟩ => by
      obtain ⟨acc, k⟩ := s
      dsimp only at h1 h2 h3
      subst h1
      refine ⟨.inr acc, ?_, .inr ⟨acc, rfl, h2, h3⟩⟩
      unfold provisoref19_Module_b0
      simp)
    ⟨rfl, rfl, by simp⟩
  unfold opt_Module provisoref19_Module
  rw [hcl, Option.bind_some, bodies_eq m heq, hr, Option.bind_some]
  rcases hP with ⟨e, rfl⟩ | ⟨L, rfl, h1, h2⟩
  · exact ⟨noModule, e, rfl, rfl, ⟨by simp [noModule], by simp [noModule], by simp [noModule], by simp [noModule], by simp [noModule], by simp [noModule]⟩⟩
  · exact ⟨_, 0, rfl, rfl, ⟨h.cl, by rw [h1]; exact h.fl, by simp, h.c, h2, by simp⟩⟩
theorem OptModules_law (m : S_api_Module) (h : okModule m) : provisolaw19_OptModules m = some true := by
  unfold provisolaw19_OptModules
  rw [show (⟨m.Name, m.Classes, m.Funcs, m.Certs⟩ : S_api_Module) = m from rfl, size_sum m h, Option.bind_some]
  by_cases hb : (m.Funcs.map fun f => f.Code.length).sum > 600
  · rw [if_pos (decide_eq_true (by omega))]
  · have c : ¬ decide ((((m.Funcs.map fun f => f.Code.length).sum : Nat) : Int) > 600) = true := fun hc => absurd (of_decide_eq_true hc) (by omega)
    obtain ⟨res, e, h1, h2, h3⟩ := module_main m h fun f hf => by
      have := sum_mem (fun f : S_api_Func => f.Code.length) hf
      omega
    rw [if_neg c, module_law m h, Option.bind_some, show (⟨m.Name, m.Classes, m.Funcs, m.Certs⟩ : S_api_Module) = m from rfl, h1, Option.bind_some, h2, Option.bind_some]
    dsimp only
    rw [if_pos (by simp), show (⟨res.Name, res.Classes, res.Funcs, res.Certs⟩ : S_api_Module) = res from rfl, sameModule res h3, Option.bind_some, if_pos rfl, sameModule m h]
    rfl
end Go.Proofs.YtmeodoidfpcjlaaGreat
