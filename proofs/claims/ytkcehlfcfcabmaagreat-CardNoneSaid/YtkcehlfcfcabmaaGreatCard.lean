/- A new card: it is made, and asked what is free. -/
import Derived.Test.YtkcehlfcfcabmaaGreatFx
import Derived.Test.YtkcehlfcfcabmaaGreatHs
import Derived.Test.YtkcehlfcfcabmaaGreatPvz
import Derived.Conc.MuLone
import Derived.Defers
set_option linter.unusedVariables false
set_option linter.unusedSimpArgs false
namespace Go.Proofs.YtkcehlfcfcabmaaGreat
open Go Go.RowKit Go.Pv
/-- The numbers of the mutex's library. -/
abbrev muLink : Go.Conc.Locks.MuLink := { lock := 23, unlock := 16, ilock := 31, iunlock := 24, lockSlow := 50, unlockSlow := 35, disable := 33, enable := 36, acquire := 49, relMerge := 32, cas32 := 48, add32 := 34, tMutex := 30, tIMutex := 28, tPMutex := 77, tPIMutex := 95, tPI32 := 99, tUP := 97, tNoCopy := 25, tU32 := 26 }
theorem muLib : Go.Conc.Locks.MuLib Tryz.prog muLink :=
  ⟨Tryz.func23, Tryz.func16, Tryz.func31, Tryz.func24, Tryz.func33, Tryz.func36, Tryz.func49, Tryz.func32, Tryz.func48, Tryz.func34,
    Tryz.underlying28, Tryz.runUnderlying28, Tryz.sizeOf28, Tryz.isAgg28, Tryz.zeroValue28, Tryz.underlying30, Tryz.runUnderlying30, Tryz.sizeOf30, Tryz.isAgg30, Tryz.zeroValue30,
    Tryz.underlying77, Tryz.runUnderlying77, Tryz.sizeOf77, Tryz.isAgg77, Tryz.zeroValue77, Tryz.underlying95, Tryz.runUnderlying95, Tryz.sizeOf95, Tryz.isAgg95, Tryz.zeroValue95,
    Tryz.underlying99, Tryz.runUnderlying99, Tryz.sizeOf99, Tryz.isAgg99, Tryz.zeroValue99, Tryz.underlying97, Tryz.runUnderlying97, Tryz.sizeOf97, Tryz.isAgg97, Tryz.zeroValue97,
    Tryz.underlying25, Tryz.runUnderlying25, Tryz.sizeOf25, Tryz.isAgg25, Tryz.zeroValue25, Tryz.underlying21, Tryz.runUnderlying21, Tryz.sizeOf21, Tryz.isAgg21, Tryz.zeroValue21, (by kernel_rfl)⟩
def AnyC (Q : List Ck → Prop) : Ck := ⟨fun w F => ∃ qs, Q qs ∧ Star qs w F, fun ⟨qs, h, hs⟩ hk => ⟨qs, h, hs.loc hk⟩, fun ⟨_, _, hs⟩ => hs.lt⟩
section
variable {w0 w : World} {F0 : List Nat} {ps qs : List Ck}
theorem anyC_in {Q : List Ck → Prop} (h : Q qs) (hs : SL w0 F0 w (qs ++ ps)) : SL w0 F0 w (AnyC Q :: ps) := hs.re fun F hst => by
  obtain ⟨F1, F2, e, h1, h2, hd⟩ := Star.append.1 hst
  exact ⟨F, ⟨F1, F2, e, ⟨qs, h, h1⟩, h2, hd⟩, fun _ => Iff.rfl⟩
theorem anyC_out {Q : List Ck → Prop} (hs : SL w0 F0 w (AnyC Q :: ps)) : ∃ qs, Q qs ∧ SL w0 F0 w (qs ++ ps) := by
  obtain ⟨F, ⟨F1, F2, e, ⟨qs, h, h1⟩, h2, hd⟩, hF⟩ := hs.st
  exact ⟨qs, h, hs.fm, F, Star.append.2 ⟨F1, F2, e, h1, h2, hd⟩, hF⟩
theorem setc0 {g t : Nat} {c v : Value} {cs : List Value} (hs : SL w0 F0 w (Blk g t (c :: cs) :: ps)) : w.cell? ⟨g, 0, none⟩ = some c ∧ w.frozen? ⟨g, 0, none⟩ = false ∧ SL w0 F0 (w.setCell ⟨g, 0, none⟩ v) (Blk g t (v :: cs) :: ps) := by
  refine ⟨hs.blk_cell (.head _) rfl, ?_, ?_⟩
  · obtain ⟨F, ⟨F1, F2, e, h1, h2, hd⟩, hF⟩ := hs.st
    obtain ⟨rfl, hg⟩ := h1
    simp [World.frozen?, hg]
  · obtain ⟨F, hst, hF0, _, hcl⟩ := SL.open_ (ps := [Blk g t (c :: cs)]) hs
    obtain ⟨rfl, hg⟩ := Star.of_one hst
    refine hcl _ [Blk g t (v :: cs)] ⟨Fm.one rfl rfl rfl (by simp [World.setCell, hg]) (fun k hk => ?_), [g], Star.one (p := Blk g t (v :: cs)) ⟨rfl, ?_⟩, fun k hk => .inl hk⟩
    · simp only [World.setCell]
      rw [Array.getElem?_modify, if_neg (fun q => hk q.symm)]
    · simp only [World.setCell]
      rw [Array.getElem?_modify, if_pos rfl, hg]
      simp
end
/-- What a new card holds. -/
def cdS (k : Int) (g gs gm : Nat) : List Ck := [Blk g 39 [.int .i32 k, .int .u32 0, .iface 74 (.pointer (some ⟨gs, 0, none⟩)), .int .i64 7, .string ⟨⟨[]⟩⟩, .string ⟨⟨[]⟩⟩, .slice none 0 0, .slice none 0 0, .slice none 0 0], Blk gs 94 [.slice none 0 0, .map (some gm), .bool true], Mp (fun x : List UInt8 => .string ⟨⟨x⟩⟩) (fun _ : Unit => .nilFunc) gm []]
def CdNew (g : Nat) : Ck := AnyC fun qs => ∃ gs gm, qs = cdS 0 g gs gm
abbrev cardTab : HasTab Tryz.prog := ⟨⟨[(39, 0, 0, 2), (39, 1, 2, 1), (39, 2, 3, 1), (94, 1, 1, 1), (94, 2, 2, 1)], [12, 14, 15, 16, 18, 21, 22, 23, 234, 237, 242, 243], [3, 4, 9, 22, 23, 32, 41, 57, 74, 92], []⟩, by kernel_rfl⟩
theorem zero94 : (Tryz.prog.info? 94).bind (·.zero) = some (.agg ⟨[.slice none 0 0, .map none, .bool false]⟩) := by kernel_rfl
theorem pl94 : plB Tryz.prog 94 [(0, 1), (1, 1), (2, 1)] = true := by kernel_rfl
theorem zero39 : (Tryz.prog.info? 39).bind (·.zero) = some (.agg ⟨[.int .i32 0, .int .u32 0, .nilIface, .int .i64 0, .string ⟨⟨[]⟩⟩, .string ⟨⟨[]⟩⟩, .slice none 0 0, .slice none 0 0, .slice none 0 0]⟩) := by kernel_rfl
theorem pl39 : plB Tryz.prog 39 [(0, 2), (2, 1), (3, 1), (4, 1), (5, 4)] = true := by kernel_rfl
theorem fnS (f : Nat) (h : f ∈ [15, 18, 21, 22, 23, 234, 237, 242, 243]) : fnB Tryz.prog f = true := by
  simp only [List.mem_cons, List.not_mem_nil, or_false] at h
  rcases h with rfl | rfl | rfl | rfl | rfl | rfl | rfl | rfl | rfl <;> kernel_rfl
theorem fnS16 : fnB Tryz.prog 16 = true := by kernel_rfl
theorem store_New_c {w : World} : Calls Tryz.prog 22 #[] w (Ret fun u_ w_ => ∃ gs gm, u_ = .pointer (some ⟨gs, 0, none⟩) ∧ SL w [] w_ [Blk gs 94 [.slice none 0 0, .map (some gm), .bool true], Mp (fun x : List UInt8 => .string ⟨⟨x⟩⟩) (fun _ : Unit => .nilFunc) gm []]) := by
  letI := cardTab
  have s0 : SL w [] w [] := SL.init0 w
  refine call_enter Tryz.func22 rfl Tryz.ntmps22 (Nat.le_of_ble_eq_true rfl) (args := []) fun q0 F0 => ?_
  refine wp_seq ?_
  refine wp_reg ?_
  refine sv 1 F0 fun _ F1 => ?_
  refine st_end ?_
  refine then_n ?_
  refine wp_seq ?_
  refine wp_reg ?_
  refine st_mkmap (fun x : List UInt8 => .string ⟨⟨x⟩⟩) (fun _ : Unit => .nilFunc) F1 s0 rfl fun gm w1 _ F2 s1 => ?_
  refine sx F2 (ex_build (vs := [.map (some gm), .bool true]) zero94 pl94 rfl (cs := [.slice none 0 0, .map (some gm), .bool true]) (by rfl)) fun _ F3 => ?_
  refine st_box F3 s1 rfl rfl rfl fun gs w2 _ F4 s2 => ?_
  refine sv 1 F4 fun _ F5 => ?_
  refine st_end ?_
  refine then_n ?_
  refine wp_ret ?_
  exact rt F5 ⟨gs, gm, rfl, s2⟩
theorem fits7_c {w : World} : Calls Tryz.prog 21 #[.int .i64 7] w (Ret fun u_ w_ => u_ = .bool true ∧ SL w [] w_ []) := by
  letI := cardTab
  have s0 : SL w [] w [] := SL.init0 w
  refine call_enter Tryz.func21 rfl Tryz.ntmps21 (Nat.le_of_ble_eq_true rfl) (args := [.int .i64 7]) fun q0 F0 => ?_
  refine wp_seq ?_
  refine wp_reg ?_
  refine sv 1 F0 fun _ F1 => ?_
  refine st_end ?_
  refine then_n ?_
  refine wp_seq ?_
  refine wp_reg ?_
  refine sv 7 F1 fun _ F2 => ?_
  refine st_end ?_
  refine then_n ?_
  refine wp_ret ?_
  exact rt F2 ⟨rfl, s0⟩
theorem card_New7_c {w : World} : Calls Tryz.prog 14 #[.int .i64 7] w (Ret fun u_ w_ => ∃ g, u_ = .tuple ⟨[.pointer (some ⟨g, 0, none⟩), .int .i64 0]⟩ ∧ SL w [] w_ [CdNew g]) := by
  letI := cardTab
  have s0 : SL w [] w [] := SL.init0 w
  refine call_enter Tryz.func14 rfl Tryz.ntmps14 (Nat.le_of_ble_eq_true rfl) (args := [.int .i64 7]) fun q0 F0 => ?_
  refine wp_seq ?_
  refine wp_reg ?_
  refine sv 2 F0 fun _ F1 => ?_
  refine st_end ?_
  refine then_n ?_
  refine wp_seq ?_
  refine wp_seq ?_
  refine wp_reg ?_
  refine sv 1 F1 fun _ F2 => ?_
  refine st_call (args := [.tmp 4]) F2 (fnS 21 (by simp)) rfl fits7_c rfl fun v1 w1 _ hS F3 => ?_
  obtain ⟨rfl, hq⟩ := hS
  have s1 := s0.add hq
  refine sv 1 F3 fun _ F4 => ?_
  refine st_end ?_
  refine then_n ?_
  refine wp_if_f F4 rfl ?_
  refine wp_skip ?_
  refine then_n ?_
  refine wp_seq ?_
  refine wp_reg ?_
  refine st_call (args := []) F4 (fnS 22 (by simp)) rfl store_New_c rfl fun v2 w2 _ hS F5 => ?_
  obtain ⟨gs, gm, rfl, hq⟩ := hS
  have s2 := s1.add hq
  refine sx F5 (v := .iface 74 (.pointer (some ⟨gs, 0, none⟩))) (fun a n hF => ?_) fun _ F6 => ?_
  · have h := hF.eval (x := .tmp 7) rfl
    simp only [execOp, h]
    simp [Instr.makeInterface, run_underlying Tryz.underlying74]
  refine sv 1 F6 fun _ F7 => ?_
  refine sx F7 (ex_build (vs := [.iface 74 (.pointer (some ⟨gs, 0, none⟩)), .int .i64 7]) zero39 pl39 rfl (cs := [.int .i32 0, .int .u32 0, .iface 74 (.pointer (some ⟨gs, 0, none⟩)), .int .i64 7, .string ⟨⟨[]⟩⟩, .string ⟨⟨[]⟩⟩, .slice none 0 0, .slice none 0 0, .slice none 0 0]) (by rfl)) fun _ F8 => ?_
  refine st_box F8 s2 rfl rfl rfl fun g w3 _ F9 s3 => ?_
  refine sv 2 F9 fun _ F10 => ?_
  refine st_end ?_
  refine then_n ?_
  refine wp_ret ?_
  exact rt F10 ⟨g, rfl, anyC_in (qs := cdS 0 g gs gm) ⟨gs, gm, rfl⟩ s3⟩
theorem lock_c {w : World} {FF : List Nat} {g gs gm : Nat} (hst : Star (cdS 0 g gs gm) w FF) : Calls Tryz.prog 15 #[.pointer (some ⟨g, 0, none⟩)] w (Ret fun u_ w_ => u_ = .bool true ∧ SL w FF w_ (cdS 1 g gs gm)) := by
  letI := cardTab
  have s0 : SL w FF w (cdS 0 g gs gm) := SL.init w FF hst
  unfold cdS at s0
  refine call_enter Tryz.func15 rfl Tryz.ntmps15 (Nat.le_of_ble_eq_true rfl) (args := [.pointer (some ⟨g, 0, none⟩)]) fun q0 F0 => ?_
  refine wp_seq ?_
  refine wp_reg ?_
  refine sv 1 F0 fun _ F2 => ?_
  refine st_end ?_
  refine then_n ?_
  refine wp_seq ?_
  refine wp_seq ?_
  refine wp_reg ?_
  refine sv 1 F2 fun _ F13 => ?_
  refine sx F13 (ex_ptr_eq rfl rfl Tryz.underlying23) fun _ F14 => ?_
  refine sv 4 F14 fun _ F15 => ?_
  refine st_gop F15 rfl rfl rfl (ex_ld Fx.nag32 rfl (s0.blk_cell (.head _) rfl)) rfl rfl fun q16 F17 => ?_
  refine st_gop F17 rfl rfl rfl (v := .bool false) (w' := w) (fun a n hF => ?_) rfl rfl fun q18 F19 => ?_
  · have h := hF.eval (x := .tmp 9) rfl
    simp only [execOp, h]
    have : (Op.equal 32 (.iface 74 (.pointer (some ⟨gs, 0, none⟩))) .nilIface).run Tryz.prog w = .ok false w := run_equal fun d => by simp [Op.equalIn, run_underlying Tryz.underlying32]
    simp [eqGuard, Act.eval, binOp, this]
  refine sv 1 F19 fun _ F20 => ?_
  refine st_end ?_
  refine then_n ?_
  refine wp_if_f F20 rfl ?_
  refine wp_skip ?_
  refine then_n ?_
  refine wp_seq ?_
  refine wp_reg ?_
  refine sv 3 F20 fun _ F21 => ?_
  obtain ⟨c1, c2, c3⟩ := setc0 (v := .int .i32 1) s0
  refine st_call (S := fun u w_ => u = .tuple #[] ∧ w_ = w.setCell ⟨g, 0, none⟩ (.int .i32 1)) (args := [.tmp 14]) F21 (fnS 23 (by simp)) rfl ((Go.MuLone.lock_free muLib ⟨g, 0, none⟩ w c1 c2).mono fun e w' h => ⟨_, h.1, rfl, h.2⟩) rfl fun v2 w2 _ hS F22 => ?_
  obtain ⟨rfl, rfl⟩ := hS
  refine st_end ?_
  refine then_n ?_
  refine wp_seq ?_
  refine wp_reg ?_
  refine sv 1 F22 fun _ F23 => ?_
  refine st_end ?_
  refine then_n ?_
  refine wp_ret ?_
  exact rt F23 ⟨rfl, c3⟩
def stS (gs gm : Nat) : List Ck := [Blk gs 94 [.slice none 0 0, .map (some gm), .bool true], Mp (fun x : List UInt8 => .string ⟨⟨x⟩⟩) (fun _ : Unit => .nilFunc) gm []]
theorem fnS2 (f : Nat) (h : f ∈ [251, 252, 253]) : fnB Tryz.prog f = true := by
  simp only [List.mem_cons, List.not_mem_nil, or_false] at h
  rcases h with rfl | rfl | rfl <;> kernel_rfl
theorem nag92 : nagB Tryz.prog 92 = true := by kernel_rfl
theorem nag4 : nagB Tryz.prog 4 = true := by kernel_rfl
theorem nag3 : nagB Tryz.prog 3 = true := by kernel_rfl
theorem ready_c {w : World} {FF : List Nat} {gs gm : Nat} (hst : Star (stS gs gm) w FF) : Calls Tryz.prog 237 #[.pointer (some ⟨gs, 0, none⟩)] w (Ret fun u_ w_ => u_ = .bool true ∧ SL w FF w_ (stS gs gm)) := by
  letI := cardTab
  have s0 : SL w FF w (stS gs gm) := SL.init w FF hst
  unfold stS at s0
  refine call_enter Tryz.func237 rfl Tryz.ntmps237 (Nat.le_of_ble_eq_true rfl) (args := [.pointer (some ⟨gs, 0, none⟩)]) fun q0 F0 => ?_
  refine wp_seq ?_
  refine wp_reg ?_
  refine sv 1 F0 fun _ F1 => ?_
  refine st_end ?_
  refine then_n ?_
  refine wp_seq ?_
  refine wp_reg ?_
  refine sv 1 F1 fun _ F2 => ?_
  refine sx F2 (ex_ptr_ne rfl rfl Tryz.underlying74) fun _ F3 => ?_
  refine sv 4 F3 fun _ F4 => ?_
  refine st_gop F4 rfl rfl rfl (ex_ld nag4 rfl (s0.blk_cell (.head _) rfl)) rfl rfl fun _ F5 => ?_
  refine sv 2 F5 fun _ F6 => ?_
  refine st_end ?_
  refine then_n ?_
  refine wp_ret ?_
  exact rt F6 ⟨rfl, s0⟩
theorem names_c {w : World} {FF : List Nat} {gs gm : Nat} (hst : Star (stS gs gm) w FF) : Calls Tryz.prog 234 #[.pointer (some ⟨gs, 0, none⟩)] w (Ret fun u_ w_ => u_ = .slice none 0 0 ∧ SL w FF w_ (stS gs gm)) := by
  letI := cardTab
  have s0 : SL w FF w (stS gs gm) := SL.init w FF hst
  refine call_enter Tryz.func234 rfl Tryz.ntmps234 (Nat.le_of_ble_eq_true rfl) (args := [.pointer (some ⟨gs, 0, none⟩)]) fun q0 F0 => ?_
  refine wp_seq ?_
  refine wp_reg ?_
  refine sv 1 F0 fun _ F1 => ?_
  refine st_end ?_
  refine then_n ?_
  refine wp_seq ?_
  refine wp_seq ?_
  refine wp_reg ?_
  refine sv 1 F1 fun _ F2 => ?_
  obtain ⟨G, hst1, hF1, hG1, hcl1⟩ := SL.open_ (ps := stS gs gm) (rest := []) s0
  refine st_call (args := [.tmp 3]) F2 (fnS 237 (by simp)) rfl (ready_c hst1) rfl fun v1 w1 _ hS F3 => ?_
  obtain ⟨rfl, hq⟩ := hS
  have s1 : SL w FF w1 (stS gs gm) := hcl1 _ _ hq
  unfold stS at s1
  refine sv 1 F3 fun _ F4 => ?_
  refine st_end ?_
  refine then_n ?_
  refine wp_if_f F4 rfl ?_
  refine wp_skip ?_
  refine then_n ?_
  refine wp_seq ?_
  refine wp_reg ?_
  refine sv 3 F4 fun _ F5 => ?_
  refine sx F5 (ex_ld nag92 rfl (s1.blk_cell (.head _) rfl)) fun _ F6 => ?_
  refine st_call (args := [.tmp 9]) F6 (fnS 243 (by simp)) rfl (keysS_own lays_keysS243 (g := gm)) rfl fun v2 w2 _ hS F7 => ?_
  obtain ⟨kb, hv, hq⟩ := hS
  obtain rfl : v2 = clo 253 [.pointer (some ⟨kb, 0, none⟩)] := hv
  have s2 : SL w FF w2 [Blk kb 92 [.map (some gm)], Blk gs 94 [.slice none 0 0, .map (some gm), .bool true], Mp (fun x : List UInt8 => .string ⟨⟨x⟩⟩) (fun _ : Unit => .nilFunc) gm []] := s1.add hq
  have s3 := s2.f2
  obtain ⟨G, hst2, hF2, hG2, hcl2⟩ := SL.open_ (ps := [Mp (fun x : List UInt8 => .string ⟨⟨x⟩⟩) (fun _ : Unit => .nilFunc) gm [], Blk kb 92 [.map (some gm)]]) (rest := [Blk gs 94 [.slice none 0 0, .map (some gm), .bool true]]) s3
  refine st_call (args := [.tmp 10]) F7 (fnS 242 (by simp)) rfl (sortedS_none lays_sortedS lays_keysS243 lays_sortS rfl (fnS2 251 (by simp)) (fnS2 252 (by simp)) (fnS2 253 (by simp)) hst2) rfl fun v3 w3 _ hS F8 => ?_
  obtain ⟨rfl, hq⟩ := hS
  have s4 := hcl2 _ _ hq
  refine sv 1 F8 fun _ F9 => ?_
  refine st_end ?_
  refine then_n ?_
  refine wp_ret ?_
  exact rt F9 ⟨rfl, s4.f1⟩
section
variable {P : Program} {w w' : World} {ops : Array Oper} {Q : Exit → Act → World → Prop} {a : Act} {n d : Nat} {m : List (Nat × Value)} {l' : List Oper} {ty : TypeId} {pos : String} {aft : Array Edge} {x : Operand} {v : Value} {o : Oper}
theorem st_invoke {name : String} {rv : Value} {f : Nat} {vs : List Value} {S : Value → World → Prop} (hF : Fr a n m) (hx : ev m x = some rv) (hi : (callMethod rv name #[]).run P w = .ok (.enter f vs.toArray) w) (hc : Calls P f vs.toArray w (Ret S)) (hlt : Nat.blt d n = true)
    (k : ∀ v w a, S v w → Fr a n ((d, v) :: m) → wpList P ops Q l' a w) : wpList P ops Q (⟨some d, .call { callee := .invoke x name, args := #[], argTypes := #[] }, ty, pos, aft, none⟩ :: l') a w :=
  wpList_plain rfl fun K hK => by
    unfold Oper.wp
    have h1 : (execOp a.eval ⟨some d, .call { callee := .invoke x name, args := #[], argTypes := #[] }, ty, pos, aft, none⟩).run P w = .ok (.enter f vs.toArray) w := by
      simp [execOp, resolve, invoke, hF.eval hx, hi]
    rw [h1, Oper.upon_enter]
    refine hc.mono ?_
    rintro e w' ⟨v, rfl, hS⟩
    exact hK _ _ (k v w' _ hS (hF.put d v hlt))
/-- A frame with calls that wait for its end. -/
structure FrD (a : Act) (n : Nat) (m : List (Nat × Value)) (ds : List Deferred) : Prop where
  fr : Fr { a with defers := [] } n m
  ds : a.defers = ds
theorem st_defer {f : Nat} {v : Value} (hF : Fr a n m) (hx : ev m x = some v) (k : ∀ a, FrD a n m [{ target := .fn (.func f) #[], args := #[v] }] → wpList P ops Q l' a w) :
    wpList P ops Q (⟨none, .defer { callee := .value (.func f), args := #[x], argTypes := #[30] }, ty, pos, aft, none⟩ :: l') a w :=
  wpList_plain rfl fun K hK => by
    unfold Oper.wp
    have h1 : (execOp a.eval ⟨none, .defer { callee := .value (.func f), args := #[x], argTypes := #[30] }, ty, pos, aft, none⟩).run P w = .ok (.defer { target := .fn (.func f) #[], args := #[v] }) w := by
      have hf : a.eval (.func f) = .func (.func f) #[] #[] := rfl
      simp [execOp, resolve, Deferred.ofValue, hf, hF.eval hx]
    rw [h1, Oper.upon_defer]
    refine hK _ _ (k _ ⟨?_, ?_⟩)
    · have h0 := hF.defers
      obtain ⟨t, ds⟩ := a
      dsimp only at h0
      subst h0
      exact hF
    · show _ :: a.defers = _
      rw [hF.defers]
theorem st_opD {ds : List Deferred} (hF : FrD a n m ds) (he : EX P w m o v w') (hg : o.guard = none) (hd : o.dst = some d) (hlt : Nat.blt d n = true)
    (k : ∀ a, FrD a n ((d, v) :: m) ds → wpList P ops Q l' a w') : wpList P ops Q (o :: l') a w :=
  wpList_plain hg fun K hK => by
    unfold Oper.wp
    have h1 : (execOp a.eval o).run P w = .ok (.value v) w' := he { a with defers := [] } n hF.fr
    rw [h1, Oper.upon_value, hd]
    exact hK _ _ (k _ ⟨hF.fr.put d v hlt, hF.ds⟩)
theorem st_callD {f : Nat} {args : List Operand} {ats : Array TypeId} {vs : List Value} {S : Value → World → Prop} {ds : List Deferred} (hF : FrD a n m ds) (hf : fnB P f = true) (hargs : evs m args = some vs) (hc : Calls P f vs.toArray w (Ret S)) (hlt : Nat.blt d n = true)
    (k : ∀ v w a, S v w → FrD a n ((d, v) :: m) ds → wpList P ops Q l' a w) : wpList P ops Q (⟨some d, .call { callee := .value (.func f), args := args.toArray, argTypes := ats }, ty, pos, aft, none⟩ :: l') a w :=
  wpList_plain rfl fun K hK => by
    unfold Oper.wp
    have h1 : (execOp a.eval ⟨some d, .call { callee := .value (.func f), args := args.toArray, argTypes := ats }, ty, pos, aft, none⟩).run P w = .ok (.enter f vs.toArray) w := by
      have h2 : args.map a.eval = vs := hF.fr.evals hargs
      simp [execOp, resolve, Deferred.ofValue, Act.eval, invoke, h2, run_callFunc hf]
    rw [h1, Oper.upon_enter]
    refine hc.mono ?_
    rintro e w' ⟨v, rfl, hS⟩
    exact hK _ _ (k v w' _ hS ⟨hF.fr.put d v hlt, hF.ds⟩)
end
theorem left_c {w : World} {FF : List Nat} {g gs gm : Nat} (hst : Star (cdS 1 g gs gm) w FF) : Calls Tryz.prog 18 #[.pointer (some ⟨g, 0, none⟩)] w (Ret fun u_ w_ => u_ = .int .i64 7 ∧ SL w FF w_ (cdS 1 g gs gm)) := by
  letI := cardTab
  have s0 : SL w FF w (cdS 1 g gs gm) := SL.init w FF hst
  unfold cdS at s0
  refine call_enter Tryz.func18 rfl Tryz.ntmps18 (Nat.le_of_ble_eq_true rfl) (args := [.pointer (some ⟨g, 0, none⟩)]) fun q0 F0 => ?_
  refine wp_seq ?_
  refine wp_reg ?_
  refine sv 1 F0 fun _ F1 => ?_
  refine st_end ?_
  refine then_n ?_
  refine wp_seq ?_
  refine wp_reg ?_
  refine sv 3 F1 fun _ F2 => ?_
  refine sx F2 (ex_ld nag3 rfl (s0.blk_cell (.head _) rfl)) fun _ F3 => ?_
  refine sv 1 F3 fun _ F4 => ?_
  refine st_end ?_
  refine then_n ?_
  refine wp_seq ?_
  refine wp_seq ?_
  refine wp_reg ?_
  refine sv 3 F4 fun _ F5 => ?_
  refine sx F5 (ex_ld Fx.nag32 rfl (s0.blk_cell (.head _) rfl)) fun _ F6 => ?_
  obtain ⟨G, hst1, hF1, hG1, hcl1⟩ := SL.open_ (ps := stS gs gm) (rest := [Blk g 39 [.int .i32 1, .int .u32 0, .iface 74 (.pointer (some ⟨gs, 0, none⟩)), .int .i64 7, .string ⟨⟨[]⟩⟩, .string ⟨⟨[]⟩⟩, .slice none 0 0, .slice none 0 0, .slice none 0 0]]) s0.f2.f2
  refine st_invoke (vs := [.pointer (some ⟨gs, 0, none⟩)]) F6 rfl (by kernel_rfl) (names_c hst1) rfl fun v1 w1 _ hS F7 => ?_
  obtain ⟨rfl, hq⟩ := hS
  have s1 : SL w FF w1 _ := hcl1 _ _ hq
  refine sx F7 (ex_len rfl Tryz.underlying57 ⟨none, 0, rfl⟩) fun _ F8 => ?_
  refine sv 1 F8 fun _ F9 => ?_
  refine st_end ?_
  refine then_n ?_
  refine wp_block ?_
  refine wp_loop_once ?_
  refine wp_seq ?_
  refine wp_reg ?_
  refine sv 1 F9 fun _ F10 => ?_
  refine st_end ?_
  refine then_n ?_
  refine wp_seq ?_
  refine wp_if_f F10 rfl ?_
  refine wp_exit ?_
  refine then_x <| then_x <| blk_hit ?_
  refine then_n ?_
  refine wp_seq ?_
  refine wp_reg ?_
  refine sv 2 F10 fun _ F11 => ?_
  refine st_end ?_
  refine then_n ?_
  refine wp_ret ?_
  exact rt F11 ⟨rfl, s1.f2⟩
theorem card_Free7_c {w : World} {FF : List Nat} {g : Nat} (hst : Star [CdNew g] w FF) : Calls Tryz.prog 12 #[.pointer (some ⟨g, 0, none⟩)] w (Ret fun u_ w_ => u_ = .int .i64 7 ∧ SL w FF w_ [CdNew g]) := by
  letI := cardTab
  obtain ⟨qs, ⟨gs, gm, rfl⟩, s0⟩ := anyC_out (ps := []) (SL.init w FF hst)
  rw [List.append_nil] at s0
  refine calls_of_wp_defers Tryz.func12 rfl ?_
  have F0 : Fr { tmps := #[.pointer (some ⟨g, 0, none⟩)] ++ Array.replicate (Tryz.f12.ntmps - #[(.pointer (some ⟨g, 0, none⟩) : Value)].size) undef, defers := [] } 11 [(0, .pointer (some ⟨g, 0, none⟩))] :=
    fr_init (n := 11) (Nat.le_of_ble_eq_true rfl) fun t v hv => by
      obtain ⟨j, rfl, hj⟩ := argm_look [.pointer (some ⟨g, 0, none⟩)] 0 t v hv
      simpa using hj
  refine wp_seq ?_
  refine wp_reg ?_
  refine sv 1 F0 fun _ F1 => ?_
  refine st_end ?_
  refine then_n ?_
  refine wp_seq ?_
  refine wp_seq ?_
  refine wp_reg ?_
  refine sv 1 F1 fun _ F2 => ?_
  obtain ⟨G, hst1, hF1, hG1, hcl1⟩ := SL.open_ (ps := cdS 0 g gs gm) (rest := []) s0
  refine st_call (args := [.tmp 3]) F2 (fnS 15 (by simp)) rfl (lock_c hst1) rfl fun v1 w1 _ hS F3 => ?_
  obtain ⟨rfl, hq⟩ := hS
  have s1 : SL w FF w1 (cdS 1 g gs gm) := hcl1 _ _ hq
  refine sv 1 F3 fun _ F4 => ?_
  refine st_end ?_
  refine then_n ?_
  refine wp_if_f F4 rfl ?_
  refine wp_skip ?_
  refine then_n ?_
  refine wp_seq ?_
  refine wp_reg ?_
  refine sv 3 F4 fun _ F5 => ?_
  refine st_defer F5 rfl fun a2 D0 => ?_
  refine st_end ?_
  refine then_n ?_
  refine wp_seq ?_
  refine wp_reg ?_
  refine st_opD D0 (ex_move rfl) rfl rfl rfl fun a3 D1 => ?_
  obtain ⟨G2, hst2, hF2, hG2, hcl2⟩ := SL.open_ (ps := cdS 1 g gs gm) (rest := []) s1
  refine st_callD (args := [.tmp 9]) D1 (fnS 18 (by simp)) rfl (left_c hst2) rfl fun v2 w2 a4 hS D2 => ?_
  obtain ⟨rfl, hq⟩ := hS
  have s2 : SL w FF w2 (cdS 1 g gs gm) := hcl2 _ _ hq
  refine st_opD D2 (ex_asg rfl) rfl rfl rfl fun a5 D3 => ?_
  refine st_end ?_
  refine then_n ?_
  refine wp_ret ?_
  show Leaves _ _ a5.tmps _ a5.defers .returning w2
  rw [D3.ds]
  unfold cdS at s2
  obtain ⟨c1, c2, c3⟩ := setc0 (v := .int .i32 0) s2
  refine leaves_cons (f := 16) (args := #[.pointer (some ⟨g, 0, none⟩)]) (by simp) (by simp [invoke, run_callFunc (fnS16)]) ?_
  refine (Go.MuLone.unlock_deferred muLib ⟨g, 0, none⟩ .returning w2 c1 c2).mono ?_
  rintro e u' w' ⟨rfl, rfl, rfl⟩
  have h7 := D3.fr.at_ 2 (.int .i64 7) rfl
  have h8 : a5.tmps[2]? = some (.int .i64 7) := h7
  refine ⟨_, results_tmp rfl _ _ _, _, rfl, ?_, anyC_in (qs := cdS 0 g gs gm) ⟨gs, gm, rfl⟩ c3⟩
  simp [h8]
end Go.Proofs.YtkcehlfcfcabmaaGreat
