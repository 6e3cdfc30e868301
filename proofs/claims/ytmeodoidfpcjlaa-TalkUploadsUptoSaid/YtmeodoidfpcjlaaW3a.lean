/- Walks, merged. -/
import Derived.Test.YtmeodoidfpcjlaaFx
import Derived.Test.YtmeodoidfpcjlaaDf
import Derived.Test.YtmeodoidfpcjlaaPvs
set_option linter.unusedVariables false
set_option linter.unusedSimpArgs false
namespace Go.Proofs.Ytmeodoidfpcjlaa
open Go Go.RowKit Go.Pv
open Go.Pv.PR renaming op → Aa, nil → Ae
open Bool renaming noConfusion → Ab
open Go.Pv renaming ex_move → Ac, then_n → Ad, st_end → Ah, st_pr → Ai, wp_reg → Aj, st_gskip → Ak, ex_asg → Al, look_b → Am, some_ok → An, bind_ok → Ao, st_gop → Ar, then_r → As, ret_gen → Au, then_x → Aw, ex_pick_f → Ay, ex_len → Az, formL → Ba, ex_add → Bb, ex_ld → Bc, call_enter → Bd, wp_if → Be, st_call → Bg, ite_t → Bh, ite_f → Bi, blk_hit → Bj, wp_cutn → Bk, bool_split → Bl, ex_pick_t → Bm, ex_nilcheck → Bn, st_append_rd → Bo, st_append_own → Bp, st_bslice1 → Bq, ex_lt → Br, blk_n → Bs
open Go renaming wp_seq → Af, wp_block → Aq, wp_skip → Av, wp_ret → Ax, wp_exit → Bf
open Nat renaming le_of_ble_eq_true → Ap
open Go.Pv.RV renaming tmp → At
-- proviso/talk.Upload
theorem talk_Upload_c {w : World} {v0 : Value} {a0 : List UInt8} {a1 : Int} {r : (List S_api_Request) × Int} (hr0 : Rd Ty.u8 w [] v0 a0) (H : talk_Upload a0 a1 = some r) :
    Calls Try.prog 10 #[v0, .int .i64 a1] w (Ret fun u_ w_ => ∃ u0 : Value, u_ = .tuple ⟨[u0, .int .i64 r.2]⟩ ∧ SL w [] w_ [Sl T_api_Request u0 r.1]) := by
 have s0 : SL w [] w [] := SL.init0 w
 refine Bd Try.func10 rfl Try.ntmps10 (Ap rfl) (args := [v0, .int .i64 a1]) fun q0 F0 => ?_
 unfold talk_Upload at H
 refine Af <| Aj <| Ai F0 (Aa (Al rfl) <| Aa (Al rfl) <| Ae) fun q3 F4 => Ah <| Ad <| Af <| Aq <| Af <| Aj <| Ai F4 (Aa (Ac rfl) <| Aa (Br rfl rfl) <| Aa (Ac rfl) <| Ae) fun _ F => Bl (decide (a1 < 1)) (fun h0 => ?_) (fun h0 => ?_)
 ·replace H := Bh h0 H
  refine Ak F rfl rfl (Am rfl h0) Ab rfl rfl fun _ F => Ak F rfl rfl (Am rfl h0) Ab rfl rfl fun _ F => Ai F (Aa (Bm (ev_b rfl h0) rfl) <| Aa (Al rfl) <| Ae) fun _ F => Ah <| Ad <| wp_if_t F rfl <| Af <| Aj <| Ai F (Aa (Al rfl) <| Aa (Al rfl) <| Ae) fun _ F => Ah <| Ad ?_
  obtain rfl := An H
  refine Ax <| blk_r <| As ?_
  refine Au (rs := [.tmp 4, .tmp 5]) (vs := [.slice none 0 0, .int .i64 1]) F (by rfl) ⟨_, _, rfl, At rfl, _, _, rfl, At rfl, rfl⟩ ⟨_, rfl, ⟨(.slice none 0 0), rfl, (SL.nilSl (T := T_api_Request) s0)⟩⟩
 replace H := Bi h0 H
 refine Ar F rfl rfl (Am rfl h0) (Ac rfl) rfl rfl fun _ F => Ar F rfl rfl (Am rfl h0) (ex_gt rfl rfl) rfl rfl fun _ F => Ai F (Aa (Ay (ev_b rfl h0) rfl) <| Aa (Al rfl) <| Ae) fun _ F => Ah <| Ad <| Be F rfl (fun h1 => ?_) (fun h1 => ?_)
 ·replace H := Bh h1 H
  refine Af <| Aj <| Ai F (Aa (Al rfl) <| Aa (Al rfl) <| Ae) fun _ F => Ah <| Ad ?_
  obtain rfl := An H
  refine Ax <| blk_r <| As ?_
  refine Au (rs := [.tmp 4, .tmp 5]) (vs := [.slice none 0 0, .int .i64 1]) F (by rfl) ⟨_, _, rfl, At rfl, _, _, rfl, At rfl, rfl⟩ ⟨_, rfl, ⟨(.slice none 0 0), rfl, (SL.nilSl (T := T_api_Request) s0)⟩⟩
 replace H := Bi h1 H
 refine Af <| Aj <| Ai F (Aa (Ac rfl) <| Aa (Az rfl Try.underlying22 (Ba (rdL hr0 s0))) <| Aa (ex_eq rfl rfl) <| Aa (Ac rfl) <| Ae) fun _ F => Bl ((a0.length : Int) == 0) (fun h2 => ?_) (fun h2 => ?_)
 ·replace H := Bh h2 H
  refine Ak F rfl rfl (Am rfl h2) Ab rfl rfl fun _ F => Ak F rfl rfl (Am rfl h2) Ab rfl rfl fun _ F => Ak F rfl rfl (Am rfl h2) Ab rfl rfl fun _ F => Ai F (Aa (Bm (ev_b rfl h2) rfl) <| Aa (Al rfl) <| Ae) fun _ F => Ah <| Ad <| wp_if_t F rfl <| Af <| Aj <| Ai F (Aa (Al rfl) <| Aa (Al rfl) <| Ae) fun _ F => Ah <| Ad ?_
  obtain rfl := An H
  refine Ax <| blk_r <| As ?_
  refine Au (rs := [.tmp 4, .tmp 5]) (vs := [.slice none 0 0, .int .i64 4]) F (by rfl) ⟨_, _, rfl, At rfl, _, _, rfl, At rfl, rfl⟩ ⟨_, rfl, ⟨(.slice none 0 0), rfl, (SL.nilSl (T := T_api_Request) s0)⟩⟩
 replace H := Bi h2 H
 refine Ar F rfl rfl (Am rfl h2) (Ac rfl) rfl rfl fun _ F => Ar F rfl rfl (Am rfl h2) (Az rfl Try.underlying22 (Ba (rdL hr0 s0))) rfl rfl fun _ F => Ar F rfl rfl (Am rfl h2) (ex_gt rfl rfl) rfl rfl fun _ F => Ai F (Aa (Ay (ev_b rfl h2) rfl) <| Aa (Al rfl) <| Ae) fun _ F => Ah <| Ad <| Be F rfl (fun h3 => ?_) (fun h3 => ?_)
 ·replace H := Bh h3 H
  refine Af <| Aj <| Ai F (Aa (Al rfl) <| Aa (Al rfl) <| Ae) fun _ F => Ah <| Ad ?_
  obtain rfl := An H
  refine Ax <| blk_r <| As ?_
  refine Au (rs := [.tmp 4, .tmp 5]) (vs := [.slice none 0 0, .int .i64 4]) F (by rfl) ⟨_, _, rfl, At rfl, _, _, rfl, At rfl, rfl⟩ ⟨_, rfl, ⟨(.slice none 0 0), rfl, (SL.nilSl (T := T_api_Request) s0)⟩⟩
 replace H := Bi h3 H
 refine Av <| Bs <| Ad <| Af <| Aj <| Ai F (Aa (Ac rfl) <| Aa (Az rfl Try.underlying22 (Ba (rdL hr0 s0))) <| Aa (ex_build (vs := [.int .i64 4, .int .i64 (a0.length : Int)]) Fx.zero35 Fx.pl35 rfl (cs := [.int .i64 4, .int .i64 (a0.length : Int), .slice none 0 0]) (rfl)) <| Ae) fun _ F => ?_
 have s1 : SL w [] _ (Dt T_api_Request (⟨4, (a0.length : Int), []⟩ : S_api_Request) [.int .i64 4, .int .i64 (a0.length : Int), .slice none 0 0] :: []) := (SL.diso (f := t_api_Request) (x := (⟨4, (a0.length : Int), []⟩ : S_api_Request)) (SL.dpair (SL.dflat (SL.dpair (SL.dflat (SL.dsl (SL.nilSl (T := Ty.u8) s0)) (Flat.int .i64) (a0.length : Int))) (Flat.int .i64) 4)))
 refine Bq F s1 Fx.sl25 rfl (by decide) rfl rfl rfl fun v1 w0 _ F s2 => ?_
 refine Ai F (Aa (Al rfl) <| Ae) fun _ F => Ah <| Ad <| Af <| Af <| Aj <| Ai F (Aa (Al rfl) <| Ae) fun _ F => Ah <| Ad ?_
 obtain ⟨o0, H0, R0⟩ := Ao H
 clear H
 refine Bk (fun a w_ => ∃ v2 : Value, Fr a 57 [(6, v2)] ∧ SL w [] w_ [Sl T_api_Request v2 o0]) ?_ ?_
 ·have H := H0
  refine Aq <| wp_lp (talk_Upload_b0 a0 a1) (fun s3 a w_ => ∃ v3 : Value, Fr a 57 [(0, v0), (1, .int .i64 a1), (6, v3), (7, .int .i64 s3.2)] ∧ SL w [] w_ [Sl T_api_Request v3 s3.1]) H ?_ ?_
  ·exact ⟨v1, F.sub ⟨rfl, rfl, rfl, rfl, trivial⟩, s2⟩
  intro s3 _ w1 h4 o1 H hr
  obtain ⟨v3, F, s4⟩ := h4
  replace H : talk_Upload_b0 a0 a1 s3 = some o1 := H
  unfold talk_Upload_b0 at H
  refine Af <| Af <| Aj <| Ai F (Aa (Ac rfl) <| Aa (Ac rfl) <| Aa (Az rfl Try.underlying22 (Ba (rdL hr0 s4))) <| Aa (Br rfl rfl) <| Ae) fun _ F => Ah <| Ad <| Be F rfl (fun h5 => ?_) (fun h5 => ?_)
  ·replace H := Bh h5 H
   refine Av <| Ad <| Af <| Aq <| Af <| Aj <| Ai F (Aa (Ac rfl) <| Aa (Az rfl Try.underlying22 (Ba (rdL hr0 s4))) <| Aa (Ac rfl) <| Aa (Ac rfl) <| Aa (Bb rfl rfl) <| Aa (ex_min2 rfl rfl) <| Aa (Al rfl) <| Ae) fun _ F => Ah <| Ad <| Aj <| Ai F (Aa (Ac rfl) <| Aa (Ac rfl) <| Ae) fun _ F => ?_
   refine st_bslice (parts := []) Flat.u8 ([] : List UInt8) F s4 Fx.sl22 rfl (by decide) rfl rfl rfl (by simp [Value.cells]) rfl rfl rfl fun v4 w2 _ F s5 => ?_
   obtain ⟨x0, h6, H⟩ := Ao H
   obtain ⟨v5, h7, h8⟩ := Rd.cut hr0 Fx.sl22 rfl h6 (some s3.2) (some (if (wr (s3.2 + a1)) < (a0.length : Int) then (wr (s3.2 + a1)) else (a0.length : Int))) (.inl rfl) (.inl rfl)
   obtain ⟨x1, h9, H⟩ := Ao H
   refine Ai F (Aa (Ac rfl) <| Aa (Ac rfl) <| Aa (Ac rfl) <| Aa (h7 _ _ _ _ _ .i64 .i64 _ _ _ _ _ rfl rfl rfl) <| Ae) fun _ F => ?_
   have s6 := s5
   obtain ⟨_, hr_⟩ := (rdL h8 s6)
   refine Bo Flat.u8 F s6 Fx.sl22 rfl rfl rfl rfl hr_ rfl rfl h9 rfl fun v6 w3 _ F s7 => ?_
   have ha := (Ba (s7.own_rd (.head _)))
   refine Ai F (Aa (ex_build (vs := [.int .i64 5, .int .i64 s3.2, v6]) Fx.zero35 Fx.pl35 rfl (cs := [.int .i64 5, .int .i64 s3.2, v6]) (by obtain ⟨_, _, e_0⟩ := ha; rw [e_0] <;> rfl)) <| Ae) fun _ F => ?_
   have s8 : SL w [] _ (Dt T_api_Request (⟨5, s3.2, x1⟩ : S_api_Request) [.int .i64 5, .int .i64 s3.2, v6] :: [Sl T_api_Request v3 s3.1]) := (SL.diso (f := t_api_Request) (x := (⟨5, s3.2, x1⟩ : S_api_Request)) (SL.dpair (SL.dflat (SL.dpair (SL.dflat (SL.dsl s7) (Flat.int .i64) s3.2)) (Flat.int .i64) 5)))
   refine Bq F s8 Fx.sl25 rfl (by decide) rfl rfl rfl fun v7 w4 _ F s9 => ?_
   obtain ⟨x2, hb, H⟩ := Ao H
   refine Bp F s9.f1 Fx.sl25 rfl rfl rfl rfl rfl rfl hb rfl fun v8 w5 _ F sa => Ai F (Aa (Al rfl) <| Ae) fun _ F => Ah <| Bs <| Ad <| Aj <| Ai F (Aa (Ac rfl) <| Aa (Ac rfl) <| Aa (Bb rfl rfl) <| Aa (Al rfl) <| Ae) fun _ F => Ah ?_
   obtain rfl := An H
   refine Ad ?_
   exact ⟨_, rfl, v8, F.sub ⟨rfl, rfl, rfl, rfl, trivial⟩, sa⟩
  replace H := Bi h5 H
  refine Bf <| Aw <| Aw <| Bj ?_
  obtain rfl := An H
  obtain rfl := hr _ rfl
  refine Ad ?_
  exact ⟨v3, F.sub ⟨rfl, trivial⟩, s4⟩
 intro _ w6 hJ
 obtain ⟨v2, F, sb⟩ := hJ
 have H := R0
 clear R0 H0
 refine Ad <| Af <| Aj <| Ai F (Aa (Ac rfl) <| Aa (ex_build (vs := [.int .i64 6]) Fx.zero35 Fx.pl35 rfl (cs := [.int .i64 6, .int .i64 0, .slice none 0 0]) (rfl)) <| Ae) fun _ F => ?_
 have sc : SL w [] _ (Dt T_api_Request (⟨6, 0, []⟩ : S_api_Request) [.int .i64 6, .int .i64 0, .slice none 0 0] :: [Sl T_api_Request v2 o0]) := (SL.diso (f := t_api_Request) (x := (⟨6, 0, []⟩ : S_api_Request)) (SL.dpair (SL.dflat (SL.dpair (SL.dflat (SL.dsl (SL.nilSl (T := Ty.u8) sb)) (Flat.int .i64) 0)) (Flat.int .i64) 6)))
 refine Bq F sc Fx.sl25 rfl (by decide) rfl rfl rfl fun v9 w7 _ F sd => ?_
 obtain ⟨x3, hc, H⟩ := Ao H
 refine Bp F sd.f1 Fx.sl25 rfl rfl rfl rfl rfl rfl hc rfl fun va w8 _ F se => Ai F (Aa (Al rfl) <| Aa (Al rfl) <| Ae) fun _ F => Ah <| Ad ?_
 obtain rfl := An H
 refine Ax ?_
 refine Au (rs := [.tmp 4, .tmp 5]) (vs := [va, .int .i64 0]) F (by rfl) ⟨_, _, rfl, At rfl, _, _, rfl, At rfl, rfl⟩ ⟨_, rfl, ⟨va, rfl, se⟩⟩
-- proviso/provisoref24.Upload
theorem provisoref24_Upload_c {w : World} {v0 : Value} {a0 : List UInt8} {a1 : Int} {r : (List S_api_Request) × Int} (hr0 : Rd Ty.u8 w [] v0 a0) (H : provisoref24_Upload a0 a1 = some r) :
    Calls Try.prog 11 #[v0, .int .i64 a1] w (Ret fun u_ w_ => ∃ u0 : Value, u_ = .tuple ⟨[u0, .int .i64 r.2]⟩ ∧ SL w [] w_ [Sl T_api_Request u0 r.1]) := by
 have s0 : SL w [] w [] := SL.init0 w
 refine Bd Try.func11 rfl Try.ntmps11 (Ap rfl) (args := [v0, .int .i64 a1]) fun q0 F0 => ?_
 unfold provisoref24_Upload at H
 refine Af <| Aj <| Ai F0 (Aa (Al rfl) <| Aa (Al rfl) <| Ae) fun q3 F4 => Ah <| Ad <| Af <| Af <| Aj <| Ai F4 (Aa (Ac rfl) <| Aa (Br rfl rfl) <| Aa (Ac rfl) <| Ae) fun _ F => Bl (decide (a1 < 1)) (fun h0 => ?_) (fun h0 => ?_)
 ·replace H := Bh h0 H
  refine Ak F rfl rfl (Am rfl h0) Ab rfl rfl fun _ F => Ak F rfl rfl (Am rfl h0) Ab rfl rfl fun _ F => Ai F (Aa (Bm (ev_b rfl h0) rfl) <| Ae) fun _ F => Ah <| Ad <| wp_if_t F rfl <| Af <| Aj <| Ai F (Aa (Al rfl) <| Aa (Al rfl) <| Ae) fun _ F => Ah <| Ad ?_
  obtain rfl := An H
  refine Ax <| As ?_
  refine Au (rs := [.tmp 4, .tmp 5]) (vs := [.slice none 0 0, .int .i64 1]) F (by rfl) ⟨_, _, rfl, At rfl, _, _, rfl, At rfl, rfl⟩ ⟨_, rfl, ⟨(.slice none 0 0), rfl, (SL.nilSl (T := T_api_Request) s0)⟩⟩
 replace H := Bi h0 H
 refine Ar F rfl rfl (Am rfl h0) (Ac rfl) rfl rfl fun _ F => Ar F rfl rfl (Am rfl h0) (ex_gt rfl rfl) rfl rfl fun _ F => Ai F (Aa (Ay (ev_b rfl h0) rfl) <| Ae) fun _ F => Ah <| Ad <| Be F rfl (fun h1 => ?_) (fun h1 => ?_)
 ·replace H := Bh h1 H
  refine Af <| Aj <| Ai F (Aa (Al rfl) <| Aa (Al rfl) <| Ae) fun _ F => Ah <| Ad ?_
  obtain rfl := An H
  refine Ax <| As ?_
  refine Au (rs := [.tmp 4, .tmp 5]) (vs := [.slice none 0 0, .int .i64 1]) F (by rfl) ⟨_, _, rfl, At rfl, _, _, rfl, At rfl, rfl⟩ ⟨_, rfl, ⟨(.slice none 0 0), rfl, (SL.nilSl (T := T_api_Request) s0)⟩⟩
 replace H := Bi h1 H
 refine Av <| Ad <| Af <| Af <| Aj <| Ai F (Aa (Ac rfl) <| Aa (Az rfl Try.underlying22 (Ba (rdL hr0 s0))) <| Aa (ex_eq rfl rfl) <| Aa (Ac rfl) <| Ae) fun _ F => Bl ((a0.length : Int) == 0) (fun h2 => ?_) (fun h2 => ?_)
 ·replace H := Bh h2 H
  refine Ak F rfl rfl (Am rfl h2) Ab rfl rfl fun _ F => Ak F rfl rfl (Am rfl h2) Ab rfl rfl fun _ F => Ak F rfl rfl (Am rfl h2) Ab rfl rfl fun _ F => Ai F (Aa (Bm (ev_b rfl h2) rfl) <| Ae) fun _ F => Ah <| Ad <| wp_if_t F rfl <| Af <| Aj <| Ai F (Aa (Al rfl) <| Aa (Al rfl) <| Ae) fun _ F => Ah <| Ad ?_
  obtain rfl := An H
  refine Ax <| As ?_
  refine Au (rs := [.tmp 4, .tmp 5]) (vs := [.slice none 0 0, .int .i64 4]) F (by rfl) ⟨_, _, rfl, At rfl, _, _, rfl, At rfl, rfl⟩ ⟨_, rfl, ⟨(.slice none 0 0), rfl, (SL.nilSl (T := T_api_Request) s0)⟩⟩
 replace H := Bi h2 H
 refine Ar F rfl rfl (Am rfl h2) (Ac rfl) rfl rfl fun _ F => Ar F rfl rfl (Am rfl h2) (Az rfl Try.underlying22 (Ba (rdL hr0 s0))) rfl rfl fun _ F => Ar F rfl rfl (Am rfl h2) (ex_gt rfl rfl) rfl rfl fun _ F => Ai F (Aa (Ay (ev_b rfl h2) rfl) <| Ae) fun _ F => Ah <| Ad <| Be F rfl (fun h3 => ?_) (fun h3 => ?_)
 ·replace H := Bh h3 H
  refine Af <| Aj <| Ai F (Aa (Al rfl) <| Aa (Al rfl) <| Ae) fun _ F => Ah <| Ad ?_
  obtain rfl := An H
  refine Ax <| As ?_
  refine Au (rs := [.tmp 4, .tmp 5]) (vs := [.slice none 0 0, .int .i64 4]) F (by rfl) ⟨_, _, rfl, At rfl, _, _, rfl, At rfl, rfl⟩ ⟨_, rfl, ⟨(.slice none 0 0), rfl, (SL.nilSl (T := T_api_Request) s0)⟩⟩
 replace H := Bi h3 H
 refine Av <| Ad <| Af <| Aj <| Ai F (Aa (Ac rfl) <| Aa (Az rfl Try.underlying22 (Ba (rdL hr0 s0))) <| Aa (ex_build (vs := [.int .i64 4, .int .i64 (a0.length : Int)]) Fx.zero35 Fx.pl35 rfl (cs := [.int .i64 4, .int .i64 (a0.length : Int), .slice none 0 0]) (rfl)) <| Ae) fun _ F => ?_
 have s1 : SL w [] _ (Dt T_api_Request (⟨4, (a0.length : Int), []⟩ : S_api_Request) [.int .i64 4, .int .i64 (a0.length : Int), .slice none 0 0] :: []) := (SL.diso (f := t_api_Request) (x := (⟨4, (a0.length : Int), []⟩ : S_api_Request)) (SL.dpair (SL.dflat (SL.dpair (SL.dflat (SL.dsl (SL.nilSl (T := Ty.u8) s0)) (Flat.int .i64) (a0.length : Int))) (Flat.int .i64) 4)))
 refine Bq F s1 Fx.sl25 rfl (by decide) rfl rfl rfl fun v1 w0 _ F s2 => ?_
 refine Ai F (Aa (Al rfl) <| Ae) fun _ F => Ah <| Ad <| Af <| Af <| Aj <| Ai F (Aa (Al rfl) <| Ae) fun _ F => Ah <| Ad ?_
 obtain ⟨o0, H0, R0⟩ := Ao H
 clear H
 refine Bk (fun a w_ => ∃ v2 : Value, Fr a 57 [(6, v2)] ∧ SL w [] w_ [Sl T_api_Request v2 o0]) ?_ ?_
 ·have H := H0
  refine Aq <| wp_lp (provisoref24_Upload_b0 a0 a1) (fun s3 a w_ => ∃ v3 : Value, Fr a 57 [(0, v0), (1, .int .i64 a1), (6, v3), (7, .int .i64 s3.2)] ∧ SL w [] w_ [Sl T_api_Request v3 s3.1]) H ?_ ?_
  ·exact ⟨v1, F.sub ⟨rfl, rfl, rfl, rfl, trivial⟩, s2⟩
  intro s3 _ w1 h4 o1 H hr
  obtain ⟨v3, F, s4⟩ := h4
  replace H : provisoref24_Upload_b0 a0 a1 s3 = some o1 := H
  unfold provisoref24_Upload_b0 at H
  refine Af <| Af <| Aj <| Ai F (Aa (Ac rfl) <| Aa (Ac rfl) <| Aa (Az rfl Try.underlying22 (Ba (rdL hr0 s4))) <| Aa (Br rfl rfl) <| Ae) fun _ F => Ah <| Ad <| Be F rfl (fun h5 => ?_) (fun h5 => ?_)
  ·replace H := Bh h5 H
   refine Av <| Ad <| Af <| Aq <| Af <| Aj <| Ai F (Aa (Ac rfl) <| Aa (Ac rfl) <| Aa (Bb rfl rfl) <| Aa (Al rfl) <| Ae) fun _ F => Ah <| Ad <| Af <| Af <| Aj <| Ai F (Aa (Ac rfl) <| Aa (Ac rfl) <| Aa (Az rfl Try.underlying22 (Ba (rdL hr0 s4))) <| Aa (ex_gt rfl rfl) <| Ae) fun _ F => Ah <| Ad <| Be F rfl (fun h6 => ?_) (fun h6 => ?_)
   ·replace H := Bh h6 H
    refine Aj <| Ai F (Aa (Ac rfl) <| Aa (Az rfl Try.underlying22 (Ba (rdL hr0 s4))) <| Aa (Al rfl) <| Ae) fun _ F => Ah <| Ad <| Aj ?_
    obtain ⟨x0, h7, H⟩ := Ao H
    obtain ⟨v4, h8, h9⟩ := Rd.cut hr0 Fx.sl22 rfl h7 (some s3.2) (some (a0.length : Int)) (.inl rfl) (.inl rfl)
    obtain ⟨x1, ha, H⟩ := Ao H
    refine Ai F (Aa (Ac rfl) <| Aa (Ac rfl) <| Aa (Ac rfl) <| Aa (Ac rfl) <| Aa (Ac rfl) <| Aa (h8 _ _ _ _ _ .i64 .i64 _ _ _ _ _ rfl rfl rfl) <| Ae) fun _ F => ?_
    have s5 := (SL.nilSl (T := Ty.u8) s4)
    obtain ⟨_, hr_⟩ := (rdL h9 s5)
    refine Bo Flat.u8 F s5 Fx.sl22 rfl rfl rfl rfl hr_ rfl rfl ha rfl fun v5 w2 _ F s6 => ?_
    have hb := (Ba (s6.own_rd (.head _)))
    refine Ai F (Aa (ex_build (vs := [.int .i64 5, .int .i64 s3.2, v5]) Fx.zero35 Fx.pl35 rfl (cs := [.int .i64 5, .int .i64 s3.2, v5]) (by obtain ⟨_, _, e_0⟩ := hb; rw [e_0] <;> rfl)) <| Ae) fun _ F => ?_
    have s7 : SL w [] _ (Dt T_api_Request (⟨5, s3.2, x1⟩ : S_api_Request) [.int .i64 5, .int .i64 s3.2, v5] :: [Sl T_api_Request v3 s3.1]) := (SL.diso (f := t_api_Request) (x := (⟨5, s3.2, x1⟩ : S_api_Request)) (SL.dpair (SL.dflat (SL.dpair (SL.dflat (SL.dsl s6) (Flat.int .i64) s3.2)) (Flat.int .i64) 5)))
    refine Bq F s7 Fx.sl25 rfl (by decide) rfl rfl rfl fun v6 w3 _ F s8 => ?_
    obtain ⟨x2, hc, H⟩ := Ao H
    refine Bp F s8.f1 Fx.sl25 rfl rfl rfl rfl rfl rfl hc rfl fun v7 w4 _ F s9 => Ai F (Aa (Al rfl) <| Ae) fun _ F => Ah <| Bs <| Ad <| Aj <| Ai F (Aa (Ac rfl) <| Aa (Ac rfl) <| Aa (Bb rfl rfl) <| Aa (Al rfl) <| Ae) fun _ F => Ah ?_
    obtain rfl := An H
    refine Ad ?_
    exact ⟨_, rfl, v7, F.sub ⟨rfl, rfl, rfl, rfl, trivial⟩, s9⟩
   replace H := Bi h6 H
   refine Av <| Ad <| Aj ?_
   obtain ⟨x3, hd, H⟩ := Ao H
   obtain ⟨v8, he, hf⟩ := Rd.cut hr0 Fx.sl22 rfl hd (some s3.2) (some (wr (s3.2 + a1))) (.inl rfl) (.inl rfl)
   obtain ⟨x4, hg, H⟩ := Ao H
   refine Ai F (Aa (Ac rfl) <| Aa (Ac rfl) <| Aa (Ac rfl) <| Aa (Ac rfl) <| Aa (Ac rfl) <| Aa (he _ _ _ _ _ .i64 .i64 _ _ _ _ _ rfl rfl rfl) <| Ae) fun _ F => ?_
   have sa := (SL.nilSl (T := Ty.u8) s4)
   obtain ⟨_, hr_⟩ := (rdL hf sa)
   refine Bo Flat.u8 F sa Fx.sl22 rfl rfl rfl rfl hr_ rfl rfl hg rfl fun v9 w5 _ F sb => ?_
   have hh := (Ba (sb.own_rd (.head _)))
   refine Ai F (Aa (ex_build (vs := [.int .i64 5, .int .i64 s3.2, v9]) Fx.zero35 Fx.pl35 rfl (cs := [.int .i64 5, .int .i64 s3.2, v9]) (by obtain ⟨_, _, e_0⟩ := hh; rw [e_0] <;> rfl)) <| Ae) fun _ F => ?_
   have sc : SL w [] _ (Dt T_api_Request (⟨5, s3.2, x4⟩ : S_api_Request) [.int .i64 5, .int .i64 s3.2, v9] :: [Sl T_api_Request v3 s3.1]) := (SL.diso (f := t_api_Request) (x := (⟨5, s3.2, x4⟩ : S_api_Request)) (SL.dpair (SL.dflat (SL.dpair (SL.dflat (SL.dsl sb) (Flat.int .i64) s3.2)) (Flat.int .i64) 5)))
   refine Bq F sc Fx.sl25 rfl (by decide) rfl rfl rfl fun va w6 _ F sd => ?_
   obtain ⟨x5, hi, H⟩ := Ao H
   refine Bp F sd.f1 Fx.sl25 rfl rfl rfl rfl rfl rfl hi rfl fun vb w7 _ F se => Ai F (Aa (Al rfl) <| Ae) fun _ F => Ah <| Bs <| Ad <| Aj <| Ai F (Aa (Ac rfl) <| Aa (Ac rfl) <| Aa (Bb rfl rfl) <| Aa (Al rfl) <| Ae) fun _ F => Ah ?_
   obtain rfl := An H
   refine Ad ?_
   exact ⟨_, rfl, vb, F.sub ⟨rfl, rfl, rfl, rfl, trivial⟩, se⟩
  replace H := Bi h5 H
  refine Bf <| Aw <| Aw <| Bj ?_
  obtain rfl := An H
  obtain rfl := hr _ rfl
  refine Ad ?_
  exact ⟨v3, F.sub ⟨rfl, trivial⟩, s4⟩
 intro _ w8 hJ
 obtain ⟨v2, F, sf⟩ := hJ
 have H := R0
 clear R0 H0
 refine Ad <| Af <| Aj <| Ai F (Aa (Ac rfl) <| Aa (ex_build (vs := [.int .i64 6]) Fx.zero35 Fx.pl35 rfl (cs := [.int .i64 6, .int .i64 0, .slice none 0 0]) (rfl)) <| Ae) fun _ F => ?_
 have sg : SL w [] _ (Dt T_api_Request (⟨6, 0, []⟩ : S_api_Request) [.int .i64 6, .int .i64 0, .slice none 0 0] :: [Sl T_api_Request v2 o0]) := (SL.diso (f := t_api_Request) (x := (⟨6, 0, []⟩ : S_api_Request)) (SL.dpair (SL.dflat (SL.dpair (SL.dflat (SL.dsl (SL.nilSl (T := Ty.u8) sf)) (Flat.int .i64) 0)) (Flat.int .i64) 6)))
 refine Bq F sg Fx.sl25 rfl (by decide) rfl rfl rfl fun vc w9 _ F sh => ?_
 obtain ⟨x6, hj, H⟩ := Ao H
 refine Bp F sh.f1 Fx.sl25 rfl rfl rfl rfl rfl rfl hj rfl fun vd wa _ F si => Ai F (Aa (Al rfl) <| Aa (Al rfl) <| Ae) fun _ F => Ah <| Ad ?_
 obtain rfl := An H
 refine Ax ?_
 refine Au (rs := [.tmp 4, .tmp 5]) (vs := [vd, .int .i64 0]) F (by rfl) ⟨_, _, rfl, At rfl, _, _, rfl, At rfl, rfl⟩ ⟨_, rfl, ⟨vd, rfl, si⟩⟩
-- slices.Equal[[]byte,byte]
theorem slices_Equal_byte_byte_c {w : World} {v0 v1 : Value} {a0 : List UInt8} {a1 : List UInt8} {r : Bool} (hr0 : Rd Ty.u8 w [] v0 a0) (hr1 : Rd Ty.u8 w [] v1 a1) (H : slices_Equal_byte_byte a0 a1 = some r) :
    Calls Try.prog 32 #[v0, v1] w (Ret fun u_ w_ => u_ = .bool r ∧ SL w [] w_ []) := by
 have s0 : SL w [] w [] := SL.init0 w
 refine Bd Try.func32 rfl Try.ntmps32 (Ap rfl) (args := [v0, v1]) fun q0 F0 => ?_
 unfold slices_Equal_byte_byte at H
 refine Af <| Aj <| Ai F0 (Aa (Al rfl) <| Ae) fun q3 F4 => Ah <| Ad <| Af <| Af <| Aj <| Ai F4 (Aa (Ac rfl) <| Aa (Az rfl Try.underlying22 (Ba (rdL hr0 s0))) <| Aa (Ac rfl) <| Aa (Az rfl Try.underlying22 (Ba (rdL hr1 s0))) <| Aa (ex_ne rfl rfl) <| Ae) fun _ F => Ah <| Ad <| Be F rfl (fun h0 => ?_) (fun h0 => ?_)
 ·replace H := Bh h0 H
  refine Af <| Aj <| Ai F (Aa (Al rfl) <| Ae) fun _ F => Ah <| Ad ?_
  obtain rfl := An H
  refine Ax <| As ?_
  refine Au (rs := [.tmp 4]) (vs := [.bool false]) F (by rfl) ⟨_, _, rfl, At rfl, rfl⟩ ⟨_, rfl, ⟨rfl, s0⟩⟩
 replace H := Bi h0 H
 refine Av <| Ad <| Af <| Af <| Aj <| Ai F (Aa (Ac rfl) <| Aa (Az rfl Try.underlying22 (Ba (rdL hr0 s0))) <| Aa (Ac rfl) <| Ae) fun _ F => Ah <| Ad ?_
 obtain ⟨o0, H0, R0⟩ := Ao H
 clear H
 refine Bk (fun a w_ => ∃ p0 : Unit, o0 = .inr (p0) ∧ Fr a 26 [] ∧ SL w [] w_ []) ?_ ?_
 ·have H := H0
  refine Aq <| wp_lp (slices_Equal_byte_byte_b0 a0 a1) (fun s1 a w_ => Fr a 26 [(0, v0), (1, v1), (12, .int .i64 (a0.length : Int)), (13, .int .i64 s1)] ∧ SL w [] w_ []) H ?_ ?_
  ·exact ⟨F.sub ⟨rfl, rfl, rfl, rfl, trivial⟩, s0⟩
  intro s1 _ w0 h1 o1 H hr
  obtain ⟨F, s2⟩ := h1
  replace H : slices_Equal_byte_byte_b0 a0 a1 s1 = some o1 := H
  unfold slices_Equal_byte_byte_b0 at H
  refine Af <| Aj <| Ai F (Aa (Br rfl rfl) <| Ae) fun _ F => Ah <| Ad <| Af <| Be F rfl (fun h2 => ?_) (fun h2 => ?_)
  ·replace H := Bh h2 H
   refine Av <| Ad <| Af <| Aq <| Af <| Aj <| Ai F (Aa (Ac rfl) <| Aa (Al rfl) <| Ae) fun _ F => Ah <| Ad <| Af ?_
   obtain ⟨x0, h3, H⟩ := Ao H
   obtain ⟨a2, h4, h5⟩ := idxC (C := fun w_ => SL w [] w_ []) Flat.u8 (fun _ hC => (rdL hr0 hC)) s2 Fx.sl22 rfl h3
   obtain ⟨x1, h6, H⟩ := Ao H
   obtain ⟨a3, h7, h8⟩ := idxC (C := fun w_ => SL w [] w_ []) Flat.u8 (fun _ hC => (rdL hr1 hC)) s2 Fx.sl22 rfl h6
   refine wp_regq (fun w_ => SL w [] w_ []) Fx.mixed (by kernel_rfl) s2.drew F (QR.op (fun _ hC => Ac rfl) <| QR.op (fun _ hC => Ac rfl) <| QR.op (fun _ hC => h4 _ _ _ _ _ _ _ _ _ _ rfl rfl) <| QR.op (fun _ hC => Bc Fx.nag5 rfl (Cells.at_ (h5 _ hC) (o := 0) rfl)) <| QR.op (fun _ hC => Ac rfl) <| QR.op (fun _ hC => Ac rfl) <| QR.op (fun _ hC => h7 _ _ _ _ _ _ _ _ _ _ rfl rfl) <| QR.op (fun _ hC => Bc Fx.nag5 rfl (Cells.at_ (h8 _ hC) (o := 0) rfl)) <| QR.op (fun _ hC => ex_ne rfl rfl) <| QR.nil) fun w1 _ s3 F => ?_
   refine Ad <| Be F rfl (fun h9 => ?_) (fun h9 => ?_)
   ·replace H := Bh h9 H
    refine Af <| Aj <| Ai F (Aa (Al rfl) <| Ae) fun _ F => Ah <| Ad ?_
    obtain rfl := An H
    obtain rfl := hr _ rfl
    replace H := R0
    try dsimp only at H
    obtain rfl := An H
    refine Ax <| blk_r <| As <| As <| blk_r <| As <| As ?_
    refine Au (rs := [.tmp 4]) (vs := [.bool false]) F (by rfl) ⟨_, _, rfl, At rfl, rfl⟩ ⟨_, rfl, ⟨rfl, s3⟩⟩
   replace H := Bi h9 H
   refine Av <| Bs <| Ad <| Aj <| Ai F (Aa (Bb rfl rfl) <| Aa (Ac rfl) <| Ae) fun _ F => Ah ?_
   obtain rfl := An H
   refine Ad ?_
   exact ⟨_, rfl, F.sub ⟨rfl, rfl, rfl, rfl, trivial⟩, s3⟩
  replace H := Bi h2 H
  refine Bf <| Aw <| Aw <| Bj ?_
  obtain rfl := An H
  obtain rfl := hr _ rfl
  refine Ad ?_
  exact ⟨_, rfl, F.sub trivial, s2⟩
 intro _ w2 hJ
 obtain ⟨p0, rfl, F, s4⟩ := hJ
 have H := R0
 clear R0 H0
 try dsimp only at H
 refine Ad <| Af <| Aj <| Ai F (Aa (Al rfl) <| Ae) fun _ F => Ah <| Ad ?_
 obtain rfl := An H
 refine Ax ?_
 refine Au (rs := [.tmp 4]) (vs := [.bool true]) F (by rfl) ⟨_, _, rfl, At rfl, rfl⟩ ⟨_, rfl, ⟨rfl, s4⟩⟩
-- proviso/provisolaw24.sameRequest
theorem provisolaw24_sameRequest_c {w : World} {v0_2 v1_2 : Value} {a0 : S_api_Request} {a1 : S_api_Request} {r : Bool} (hr0_2 : Rd Ty.u8 w [] v0_2 a0.Data) (hr1_2 : Rd Ty.u8 w [] v1_2 a1.Data) (H : provisolaw24_sameRequest a0 a1 = some r) :
    Calls Try.prog 12 #[.agg ⟨[.int .i64 a0.Command, .int .i64 a0.Number, v0_2]⟩, .agg ⟨[.int .i64 a1.Command, .int .i64 a1.Number, v1_2]⟩] w (Ret fun u_ w_ => u_ = .bool r ∧ SL w [] w_ []) := by
 have s0 : SL w [] w [] := SL.init0 w
 refine Bd Try.func12 rfl Try.ntmps12 (Ap rfl) (args := [.agg ⟨[.int .i64 a0.Command, .int .i64 a0.Number, v0_2]⟩, .agg ⟨[.int .i64 a1.Command, .int .i64 a1.Number, v1_2]⟩]) fun q0 F0 => ?_
 unfold provisolaw24_sameRequest at H
 refine Af <| Aj <| st_box F0 s0 rfl rfl rfl fun g0 w0 _ F s1 => st_box F s1 rfl rfl rfl fun g1 w1 _ F s2 => Ai F (Aa (Al rfl) <| Ae) fun _ F => Ah <| Ad <| Af <| Aj <| Ai F (Aa (ex_fab Fx.fa35_0 rfl rfl) <| Aa (Bc Fx.nag3 rfl (s2.blk_cell (.tail _ <| .head _) rfl)) <| Aa (ex_fab Fx.fa35_0 rfl rfl) <| Aa (Bc Fx.nag3 rfl (s2.blk_cell (.head _) rfl)) <| Aa (ex_eq rfl rfl) <| Aa (Ac rfl) <| Ae) fun _ F => Bl (a0.Command == a1.Command) (fun h0 => ?_) (fun h0 => ?_)
 ·replace H := Bh h0 H
  refine Ar F rfl rfl (Am rfl h0) (ex_fab Fx.fa35_1 rfl rfl) rfl rfl fun _ F => Ar F rfl rfl (Am rfl h0) (Bc Fx.nag3 rfl (s2.blk_cell (.tail _ <| .head _) rfl)) rfl rfl fun _ F => Ar F rfl rfl (Am rfl h0) (ex_fab Fx.fa35_1 rfl rfl) rfl rfl fun _ F => Ar F rfl rfl (Am rfl h0) (Bc Fx.nag3 rfl (s2.blk_cell (.head _) rfl)) rfl rfl fun _ F => Ar F rfl rfl (Am rfl h0) (ex_eq rfl rfl) rfl rfl fun _ F => Ai F (Aa (Bm (ev_b rfl h0) rfl) <| Aa (Ac rfl) <| Ae) fun _ F => Bl (a0.Number == a1.Number) (fun h1 => ?_) (fun h1 => ?_)
  ·replace H := Bh h1 H
   refine Ar F rfl rfl (Am rfl h1) (ex_fab Fx.fa35_2 rfl rfl) rfl rfl fun _ F => Ar F rfl rfl (Am rfl h1) (Bc Fx.nag22 rfl (s2.blk_cell (.tail _ <| .head _) rfl)) rfl rfl fun _ F => Ar F rfl rfl (Am rfl h1) (ex_fab Fx.fa35_2 rfl rfl) rfl rfl fun _ F => Ar F rfl rfl (Am rfl h1) (Bc Fx.nag22 rfl (s2.blk_cell (.head _) rfl)) rfl rfl fun _ F => ?_
   obtain ⟨x0, h2, H⟩ := Ao H
   refine st_ungd F rfl (Am rfl h1) <| Bg (args := [.tmp 19, .tmp 21]) F Fx.fn32 rfl (slices_Equal_byte_byte_c (a0 := a0.Data) (a1 := a1.Data)   (hr0_2.pass0 s2) (hr1_2.pass0 s2) h2) rfl fun v0 w2 _ h3 F => ?_
   obtain ⟨rfl, h4⟩ := h3
   have s3 := s2.add h4
   refine Ai F (Aa (Bm (ev_b rfl h1) rfl) <| Aa (Al rfl) <| Ae) fun _ F => Ah <| Ad ?_
   obtain rfl := An H
   refine Ax ?_
   refine Au (rs := [.tmp 4]) (vs := [.bool x0]) F (by rfl) ⟨_, _, rfl, At rfl, rfl⟩ ⟨_, rfl, ⟨rfl, s3.drop.drop⟩⟩
  replace H := Bi h1 H
  refine Ak F rfl rfl (Am rfl h1) Ab rfl rfl fun _ F => Ak F rfl rfl (Am rfl h1) Ab rfl rfl fun _ F => Ak F rfl rfl (Am rfl h1) Ab rfl rfl fun _ F => Ak F rfl rfl (Am rfl h1) Ab rfl rfl fun _ F => Ak F rfl rfl (Am rfl h1) Ab rfl rfl fun _ F => Ai F (Aa (Ay (ev_b rfl h1) rfl) <| Aa (Al rfl) <| Ae) fun _ F => Ah <| Ad ?_
  obtain rfl := An H
  refine Ax ?_
  refine Au (rs := [.tmp 4]) (vs := [.bool false]) F (by rfl) ⟨_, _, rfl, At rfl, rfl⟩ ⟨_, rfl, ⟨rfl, s2.drop.drop⟩⟩
 replace H := Bi h0 H
 refine Ak F rfl rfl (Am rfl h0) Ab rfl rfl fun _ F => Ak F rfl rfl (Am rfl h0) Ab rfl rfl fun _ F => Ak F rfl rfl (Am rfl h0) Ab rfl rfl fun _ F => Ak F rfl rfl (Am rfl h0) Ab rfl rfl fun _ F => Ak F rfl rfl (Am rfl h0) Ab rfl rfl fun _ F => Ai F (Aa (Ay (ev_b rfl h0) rfl) <| Aa (Ac rfl) <| Ae) fun _ F => Ak F rfl rfl rfl Ab rfl rfl fun _ F => Ak F rfl rfl rfl Ab rfl rfl fun _ F => Ak F rfl rfl rfl Ab rfl rfl fun _ F => Ak F rfl rfl rfl Ab rfl rfl fun _ F => Ak F rfl rfl rfl Ab rfl rfl fun _ F => Ai F (Aa (Ay rfl rfl) <| Aa (Al rfl) <| Ae) fun _ F => Ah <| Ad ?_
 obtain rfl := An H
 refine Ax ?_
 refine Au (rs := [.tmp 4]) (vs := [.bool false]) F (by rfl) ⟨_, _, rfl, At rfl, rfl⟩ ⟨_, rfl, ⟨rfl, s2.drop.drop⟩⟩
-- (*proviso/provisoplain.Shelf).Bytes
theorem provisoplain_Shelf_Bytes_c {w : World} {FF : List Nat} {g0 : Nat} {v0_0 v0_1 v1 : Value} {a0 : S_provisoplain_Shelf} {a1 : List UInt8} {r : S_provisoplain_Shelf} (hst : Star [Blk g0 32 [v0_0, v0_1], Sl (Ty.slice Ty.u8) v0_0 a0.bytes, Sl (Ty.slice (Ty.int .i64)) v0_1 a0.ints, Sl Ty.u8 v1 a1] w FF)  (H : provisoplain_Shelf_Bytes a0 a1 = some r) :
    Calls Try.prog 13 #[.pointer (some ⟨g0, 0, none⟩), v1] w (Ret fun u_ w_ => ∃ u0 u1 : Value, u_ = .tuple ⟨[]⟩ ∧ SL w FF w_ [Blk g0 32 [u0, u1], Sl (Ty.slice Ty.u8) u0 r.bytes, Sl (Ty.slice (Ty.int .i64)) u1 r.ints]) := by
 have s0 : SL w FF w [Blk g0 32 [v0_0, v0_1], Sl (Ty.slice Ty.u8) v0_0 a0.bytes, Sl (Ty.slice (Ty.int .i64)) v0_1 a0.ints, Sl Ty.u8 v1 a1] := SL.init w FF hst
 refine Bd Try.func13 rfl Try.ntmps13 (Ap rfl) (args := [.pointer (some ⟨g0, 0, none⟩), v1]) fun q0 F0 => ?_
 unfold provisoplain_Shelf_Bytes at H
 refine Aj <| Ai F0 (Aa (Ac rfl) <| Aa (Ac rfl) <| Aa (Bn rfl) <| Aa (ex_fab Fx.fa32_0 rfl rfl) <| Aa (Bc Fx.nag29 rfl (s0.blk_cell (.head _) rfl)) <| Aa (Ac rfl) <| Ae) fun q1 F2 => ?_
 have hv9 := (Ba (s0.own_rd (.tail _ <| .tail _ <| .tail _ <| .head _)))
 have s1 : SL w FF _ (Dt (Ty.slice Ty.u8) a1 [v1] :: [Blk g0 32 [v0_0, v0_1], Sl (Ty.slice Ty.u8) v0_0 a0.bytes, Sl (Ty.slice (Ty.int .i64)) v0_1 a0.ints]) := (SL.dsl s0.f3)
 refine Bq F2 s1 Fx.sl29 rfl (by decide) rfl (form_cells hv9) rfl fun v3 w4 q5 F6 s7 => ?_
 obtain ⟨x0, h0, H⟩ := Ao H
 refine Bp F6 s7.f2 Fx.sl29 rfl rfl rfl rfl rfl rfl h0 rfl fun v0 w0 _ F s2 => Ai F (Aa (Bn rfl) <| Aa (ex_fab Fx.fa32_0 rfl rfl) <| Ae) fun _ F => ?_
 have s3 := s2.f1
 refine st_store F s3 rfl rfl Fx.sz29 (form_cells (Ba (s3.own_rd (.tail _ <| .head _)))) (form_one (Ba (s3.own_rd (.tail _ <| .head _)))) rfl fun w1 _ F s4 => ?_
 replace s4 : SL w FF w1 [Blk g0 32 [v0, v0_1], Sl (Ty.slice Ty.u8) v0 x0, Sl (Ty.slice (Ty.int .i64)) v0_1 a0.ints] := s4
 refine Ah ?_
 obtain rfl := An H
 exact end_gen F (by rfl) ⟨_, rfl, ⟨v0, v0_1, rfl, s4⟩⟩
-- proviso/provisoplain.mark
theorem provisoplain_mark_c {w : World} {a0 : Int} {r : Int}  (H : provisoplain_mark a0 = some r) :
    Calls Try.prog 33 #[.int .i64 a0] w (Ret fun u_ w_ => u_ = .int .i64 r ∧ SL w [] w_ []) := by
 have s0 : SL w [] w [] := SL.init0 w
 refine Bd Try.func33 rfl Try.ntmps33 (Ap rfl) (args := [.int .i64 a0]) fun q0 F0 => ?_
 unfold provisoplain_mark at H
 refine Af <| Aj <| Ai F0 (Aa (Al rfl) <| Ae) fun q3 F4 => Ah <| Ad <| Af <| Aj <| Ai F4 (Aa (Ac rfl) <| Aa (ex_rem rfl rfl rfl) <| Aa (Bb rfl rfl) <| Aa (Al rfl) <| Ae) fun q7 F8 => Ah <| Ad ?_
 obtain rfl := An H
 refine Ax ?_
 refine Au (rs := [.tmp 2]) (vs := [.int .i64 (wr ((Int.tmod a0 250) + 1))]) F8 (by rfl) ⟨_, _, rfl, At rfl, rfl⟩ ⟨_, rfl, ⟨rfl, s0⟩⟩
-- (*proviso/provisoplain.Shelf).marked
theorem provisoplain_Shelf_marked_bpp_c {w : World} {FF : List Nat} {g0 : Nat} {v0_0 v0_1 v1 v2 : Value} {a0 : S_provisoplain_Shelf} {a1 : List (List UInt8)} {a2 : List (List Int)} {r : Bool} (hst : Star [Blk g0 32 [v0_0, v0_1]] w FF) (hr0_0 : Rd (Ty.slice Ty.u8) w FF v0_0 a0.bytes) (hr0_1 : Rd (Ty.slice (Ty.int .i64)) w FF v0_1 a0.ints) (hr1 : Rd (Ty.slice Ty.u8) w FF v1 a1) (hr2 : Rd (Ty.slice (Ty.int .i64)) w FF v2 a2) (H : provisoplain_Shelf_marked_bpp a0 a1 a2 = some r) :
    Calls Try.prog 34 #[.pointer (some ⟨g0, 0, none⟩), v1, v2] w (Ret fun u_ w_ => u_ = .bool r ∧ SL w FF w_ [Blk g0 32 [v0_0, v0_1]]) := by
 have s0 : SL w FF w [Blk g0 32 [v0_0, v0_1]] := SL.init w FF hst
 refine Bd Try.func34 rfl Try.ntmps34 (Ap rfl) (args := [.pointer (some ⟨g0, 0, none⟩), v1, v2]) fun q0 F0 => ?_
 unfold provisoplain_Shelf_marked_bpp at H
 refine Af <| Aj <| Ai F0 (Aa (Al rfl) <| Ae) fun q3 F4 => Ah <| Ad <| Af <| Af <| Aj <| Ai F4 (Aa (Ac rfl) <| Aa (Bn rfl) <| Aa (ex_fab Fx.fa32_0 rfl rfl) <| Aa (Bc Fx.nag29 rfl (s0.blk_cell (.head _) rfl)) <| Aa (Az rfl Try.underlying29 (Ba (rdL hr0_0 s0))) <| Aa (Ac rfl) <| Ae) fun _ F => Ah <| Ad ?_
 obtain ⟨o0, H0, R0⟩ := Ao H
 clear H
 refine Bk (fun a w_ => ∃ p0 : Unit, o0 = .inr (p0) ∧ Fr a 93 [(0, .pointer (some ⟨g0, 0, none⟩)), (2, v2)] ∧ SL w FF w_ [Blk g0 32 [v0_0, v0_1]]) ?_ ?_
 ·have H := H0
  refine Aq <| wp_lp (provisoplain_Shelf_marked_bpp_b2 a0 a1) (fun s1 a w_ => Fr a 93 [(0, .pointer (some ⟨g0, 0, none⟩)), (1, v1), (2, v2), (22, v0_0), (23, .int .i64 (a0.bytes.length : Int)), (24, .int .i64 s1)] ∧ SL w FF w_ [Blk g0 32 [v0_0, v0_1]]) H ?_ ?_
  ·exact ⟨F.sub ⟨rfl, rfl, rfl, rfl, rfl, rfl, trivial⟩, s0⟩
  intro s1 _ w0 h0 o1 H hr
  obtain ⟨F, s2⟩ := h0
  replace H : provisoplain_Shelf_marked_bpp_b2 a0 a1 s1 = some o1 := H
  unfold provisoplain_Shelf_marked_bpp_b2 at H
  refine Af <| Aj <| Ai F (Aa (Br rfl rfl) <| Ae) fun _ F => Ah <| Ad <| Af <| Be F rfl (fun h1 => ?_) (fun h1 => ?_)
  ·replace H := Bh h1 H
   refine Av <| Ad <| Af <| Aq <| Af <| Aj ?_
   obtain ⟨x0, h2, H⟩ := Ao H
   obtain ⟨a3, c0, G0, h3, h4, h5, h6⟩ := Rd.idx hr0_0 Fx.sl29 rfl h2
   obtain ⟨v0, rfl, h7⟩ := (rd_sl h5 h6)
   replace h4 := h4 _ _ s2
   refine Ai F (Aa (Ac rfl) <| Aa (h3 _ _ _ _ _ _ _ _ _ _ rfl rfl) <| Aa (Bc Fx.nag22 rfl (Cells.at_ h4 (o := 0) rfl)) <| Aa (Al rfl) <| Aa (Al rfl) <| Ae) fun _ F => Ah <| Ad <| Af <| Af <| Aj <| Ai F (Aa (Ac rfl) <| Aa (Az rfl Try.underlying22 (Ba (rdL h7 s2))) <| Aa (Ac rfl) <| Ae) fun _ F => Ah <| Ad ?_
   obtain ⟨o2, H1, R1⟩ := Ao H
   clear H
   refine Bk (fun a w_ => ∃ p1 : Unit, o2 = .inr (p1) ∧ Fr a 93 [(0, .pointer (some ⟨g0, 0, none⟩)), (1, v1), (2, v2), (7, .int .i64 s1), (22, v0_0), (23, .int .i64 (a0.bytes.length : Int)), (24, .int .i64 s1)] ∧ SL w FF w_ [Blk g0 32 [v0_0, v0_1]]) ?_ ?_
   ·have H := H1
    refine Aq <| wp_lp (provisoplain_Shelf_marked_bpp_b0 s1 x0) (fun s3 a w_ => Fr a 93 [(0, .pointer (some ⟨g0, 0, none⟩)), (1, v1), (2, v2), (7, .int .i64 s1), (22, v0_0), (23, .int .i64 (a0.bytes.length : Int)), (24, .int .i64 s1), (29, v0), (30, .int .i64 (x0.length : Int)), (31, .int .i64 s3)] ∧ SL w FF w_ [Blk g0 32 [v0_0, v0_1]]) H ?_ ?_
    ·exact ⟨F.sub ⟨rfl, rfl, rfl, rfl, rfl, rfl, rfl, rfl, rfl, rfl, trivial⟩, s2⟩
    intro s3 _ w1 h8 o3 H hr
    obtain ⟨F, s4⟩ := h8
    replace H : provisoplain_Shelf_marked_bpp_b0 s1 x0 s3 = some o3 := H
    unfold provisoplain_Shelf_marked_bpp_b0 at H
    refine Af <| Aj <| Ai F (Aa (Br rfl rfl) <| Ae) fun _ F => Ah <| Ad <| Af <| Be F rfl (fun h9 => ?_) (fun h9 => ?_)
    ·replace H := Bh h9 H
     refine Av <| Ad <| Af <| Aq <| Af <| Aj ?_
     obtain ⟨x1, ha, H⟩ := Ao H
     obtain ⟨a4, hb, hc⟩ := idxL Flat.u8 (rdL h7 s4) Fx.sl22 rfl ha
     refine Ai F (Aa (hb _ _ _ _ _ _ _ _ _ _ rfl rfl) <| Aa (Bc Fx.nag5 rfl (Cells.at_ hc (o := 0) rfl)) <| Aa (Al rfl) <| Ae) fun _ F => Ah <| Ad <| Af <| Aj ?_
     obtain ⟨x2, hd, H⟩ := Ao H
     refine Ai F (Aa (Ac rfl) <| Aa (Ac rfl) <| Ae) fun _ F => Bg (args := [.tmp 36]) F Fx.fn33 rfl (provisoplain_mark_c (a0 := s1)    hd) rfl fun v3 w2 _ he F => ?_
     obtain ⟨rfl, hf⟩ := he
     have s5 := s4.add hf
     refine Ai F (Aa (ex_cv8 rfl Try.underlying3 Try.underlying5) <| Aa (ex_ne rfl rfl) <| Ae) fun _ F => Ah <| Ad <| Be F rfl (fun hg => ?_) (fun hg => ?_)
     ·replace H := Bh hg H
      refine Af <| Aj <| Ai F (Aa (Al rfl) <| Ae) fun _ F => Ah <| Ad ?_
      obtain rfl := An H
      obtain rfl := hr _ rfl
      replace H := R1
      try dsimp only at H
      obtain rfl := An H
      obtain rfl := hr _ rfl
      replace H := R0
      try dsimp only at H
      obtain rfl := An H
      refine Ax <| blk_r <| As <| As <| blk_r <| As <| As <| blk_r <| As <| As <| blk_r <| As <| As ?_
      refine Au (rs := [.tmp 6]) (vs := [.bool false]) F (by rfl) ⟨_, _, rfl, At rfl, rfl⟩ ⟨_, rfl, ⟨rfl, s5⟩⟩
     replace H := Bi hg H
     refine Av <| Bs <| Ad <| Aj <| Ai F (Aa (Bb rfl rfl) <| Aa (Ac rfl) <| Ae) fun _ F => Ah ?_
     obtain rfl := An H
     refine Ad ?_
     exact ⟨_, rfl, F.sub ⟨rfl, rfl, rfl, rfl, rfl, rfl, rfl, rfl, rfl, rfl, trivial⟩, s5⟩
    replace H := Bi h9 H
    refine Bf <| Aw <| Aw <| Bj ?_
    obtain rfl := An H
    obtain rfl := hr _ rfl
    refine Ad ?_
    exact ⟨_, rfl, F.sub ⟨rfl, rfl, rfl, rfl, rfl, rfl, rfl, trivial⟩, s4⟩
   intro _ w3 hJ
   obtain ⟨p1, rfl, F, s6⟩ := hJ
   have H := R1
   clear R1 H1
   try dsimp only at H
   refine Ad <| Af <| Aj ?_
   obtain ⟨x3, hh, H⟩ := Ao H
   obtain ⟨a5, c1, G1, hi, hj, hk, hl⟩ := Rd.idx hr1 Fx.sl29 rfl hh
   obtain ⟨v4, rfl, hm⟩ := (rd_sl hk hl)
   replace hj := hj _ _ s6
   refine Ai F (Aa (Ac rfl) <| Aa (Ac rfl) <| Aa (hi _ _ _ _ _ _ _ _ _ _ rfl rfl) <| Aa (Bc Fx.nag22 rfl (Cells.at_ hj (o := 0) rfl)) <| Aa (Az rfl Try.underlying22 (Ba (rdL hm s6))) <| Aa (Ac rfl) <| Ae) fun _ F => Ah <| Ad ?_
   obtain ⟨o4, H2, R2⟩ := Ao H
   clear H
   refine Bk (fun a w_ => ∃ p2 : Unit, o4 = .inr (p2) ∧ Fr a 93 [(0, .pointer (some ⟨g0, 0, none⟩)), (1, v1), (2, v2), (22, v0_0), (23, .int .i64 (a0.bytes.length : Int)), (24, .int .i64 s1)] ∧ SL w FF w_ [Blk g0 32 [v0_0, v0_1]]) ?_ ?_
   ·have H := H2
    refine Aq <| wp_lp (provisoplain_Shelf_marked_bpp_b1 s1 x3) (fun s7 a w_ => Fr a 93 [(0, .pointer (some ⟨g0, 0, none⟩)), (1, v1), (2, v2), (7, .int .i64 s1), (22, v0_0), (23, .int .i64 (a0.bytes.length : Int)), (24, .int .i64 s1), (44, v4), (45, .int .i64 (x3.length : Int)), (46, .int .i64 s7)] ∧ SL w FF w_ [Blk g0 32 [v0_0, v0_1]]) H ?_ ?_
    ·exact ⟨F.sub ⟨rfl, rfl, rfl, rfl, rfl, rfl, rfl, rfl, rfl, rfl, trivial⟩, s6⟩
    intro s7 _ w4 hn o5 H hr
    obtain ⟨F, s8⟩ := hn
    replace H : provisoplain_Shelf_marked_bpp_b1 s1 x3 s7 = some o5 := H
    unfold provisoplain_Shelf_marked_bpp_b1 at H
    refine Af <| Aj <| Ai F (Aa (Br rfl rfl) <| Ae) fun _ F => Ah <| Ad <| Af <| Be F rfl (fun ho => ?_) (fun ho => ?_)
    ·replace H := Bh ho H
     refine Av <| Ad <| Af <| Aq <| Af <| Aj ?_
     obtain ⟨x4, hp, H⟩ := Ao H
     obtain ⟨a6, hq, hs⟩ := idxL Flat.u8 (rdL hm s8) Fx.sl22 rfl hp
     refine Ai F (Aa (hq _ _ _ _ _ _ _ _ _ _ rfl rfl) <| Aa (Bc Fx.nag5 rfl (Cells.at_ hs (o := 0) rfl)) <| Aa (Al rfl) <| Ae) fun _ F => Ah <| Ad <| Af <| Aj ?_
     obtain ⟨x5, ht, H⟩ := Ao H
     refine Ai F (Aa (Ac rfl) <| Aa (Ac rfl) <| Ae) fun _ F => Bg (args := [.tmp 51]) F Fx.fn33 rfl (provisoplain_mark_c (a0 := s1)    ht) rfl fun v5 w5 _ hu F => ?_
     obtain ⟨rfl, hv⟩ := hu
     have s9 := s8.add hv
     refine Ai F (Aa (ex_cv8 rfl Try.underlying3 Try.underlying5) <| Aa (ex_ne rfl rfl) <| Ae) fun _ F => Ah <| Ad <| Be F rfl (fun hw => ?_) (fun hw => ?_)
     ·replace H := Bh hw H
      refine Af <| Aj <| Ai F (Aa (Al rfl) <| Ae) fun _ F => Ah <| Ad ?_
      obtain rfl := An H
      obtain rfl := hr _ rfl
      replace H := R2
      try dsimp only at H
      obtain rfl := An H
      obtain rfl := hr _ rfl
      replace H := R0
      try dsimp only at H
      obtain rfl := An H
      refine Ax <| blk_r <| As <| As <| blk_r <| As <| blk_r <| As <| As <| blk_r <| As <| As ?_
      refine Au (rs := [.tmp 6]) (vs := [.bool false]) F (by rfl) ⟨_, _, rfl, At rfl, rfl⟩ ⟨_, rfl, ⟨rfl, s9⟩⟩
     replace H := Bi hw H
     refine Av <| Bs <| Ad <| Aj <| Ai F (Aa (Bb rfl rfl) <| Aa (Ac rfl) <| Ae) fun _ F => Ah ?_
     obtain rfl := An H
     refine Ad ?_
     exact ⟨_, rfl, F.sub ⟨rfl, rfl, rfl, rfl, rfl, rfl, rfl, rfl, rfl, rfl, trivial⟩, s9⟩
    replace H := Bi ho H
    refine Bf <| Aw <| Aw <| Bj ?_
    obtain rfl := An H
    obtain rfl := hr _ rfl
    refine Ad ?_
    exact ⟨_, rfl, F.sub ⟨rfl, rfl, rfl, rfl, rfl, rfl, trivial⟩, s8⟩
   intro _ w6 hJ
   obtain ⟨p2, rfl, F, sa⟩ := hJ
   have H := R2
   clear R2 H2
   try dsimp only at H
   refine Bs <| Ad <| Aj <| Ai F (Aa (Bb rfl rfl) <| Aa (Ac rfl) <| Ae) fun _ F => Ah ?_
   obtain rfl := An H
   refine Ad ?_
   exact ⟨_, rfl, F.sub ⟨rfl, rfl, rfl, rfl, rfl, rfl, trivial⟩, sa⟩
  replace H := Bi h1 H
  refine Bf <| Aw <| Aw <| Bj ?_
  obtain rfl := An H
  obtain rfl := hr _ rfl
  refine Ad ?_
  exact ⟨_, rfl, F.sub ⟨rfl, rfl, trivial⟩, s2⟩
 intro _ w7 hJ
 obtain ⟨p0, rfl, F, sb⟩ := hJ
 have H := R0
 clear R0 H0
 try dsimp only at H
 refine Ad <| Af <| Af <| Aj <| Ai F (Aa (Ac rfl) <| Aa (Bn rfl) <| Aa (ex_fab Fx.fa32_1 rfl rfl) <| Aa (Bc Fx.nag30 rfl (sb.blk_cell (.head _) rfl)) <| Aa (Az rfl Try.underlying30 (Ba (rdL hr0_1 sb))) <| Aa (Ac rfl) <| Ae) fun _ F => Ah <| Ad ?_
 obtain ⟨o6, H3, R3⟩ := Ao H
 clear H
 refine Bk (fun a w_ => ∃ p3 : Unit, o6 = .inr (p3) ∧ Fr a 93 [] ∧ SL w FF w_ [Blk g0 32 [v0_0, v0_1]]) ?_ ?_
 ·have H := H3
  refine Aq <| wp_lp (provisoplain_Shelf_marked_bpp_b5 a0 a2) (fun sc a w_ => Fr a 93 [(2, v2), (60, v0_1), (61, .int .i64 (a0.ints.length : Int)), (62, .int .i64 sc)] ∧ SL w FF w_ [Blk g0 32 [v0_0, v0_1]]) H ?_ ?_
  ·exact ⟨F.sub ⟨rfl, rfl, rfl, rfl, trivial⟩, sb⟩
  intro sc _ w8 hx o7 H hr
  obtain ⟨F, sd⟩ := hx
  replace H : provisoplain_Shelf_marked_bpp_b5 a0 a2 sc = some o7 := H
  unfold provisoplain_Shelf_marked_bpp_b5 at H
  refine Af <| Aj <| Ai F (Aa (Br rfl rfl) <| Ae) fun _ F => Ah <| Ad <| Af <| Be F rfl (fun hy => ?_) (fun hy => ?_)
  ·replace H := Bh hy H
   refine Av <| Ad <| Af <| Aq <| Af <| Aj ?_
   obtain ⟨x6, hz, H⟩ := Ao H
   obtain ⟨a7, c2, G2, h10, h11, h12, h13⟩ := Rd.idx hr0_1 Fx.sl30 rfl hz
   obtain ⟨v6, rfl, h14⟩ := (rd_sl h12 h13)
   replace h11 := h11 _ _ sd
   refine Ai F (Aa (Ac rfl) <| Aa (h10 _ _ _ _ _ _ _ _ _ _ rfl rfl) <| Aa (Bc Fx.nag57 rfl (Cells.at_ h11 (o := 0) rfl)) <| Aa (Al rfl) <| Aa (Al rfl) <| Ae) fun _ F => Ah <| Ad <| Af <| Af <| Aj <| Ai F (Aa (Ac rfl) <| Aa (Az rfl Try.underlying57 (Ba (rdL h14 sd))) <| Aa (Ac rfl) <| Ae) fun _ F => Ah <| Ad ?_
   obtain ⟨o8, H4, R4⟩ := Ao H
   clear H
   refine Bk (fun a w_ => ∃ p4 : Unit, o8 = .inr (p4) ∧ Fr a 93 [(2, v2), (13, .int .i64 sc), (60, v0_1), (61, .int .i64 (a0.ints.length : Int)), (62, .int .i64 sc)] ∧ SL w FF w_ [Blk g0 32 [v0_0, v0_1]]) ?_ ?_
   ·have H := H4
    refine Aq <| wp_lp (provisoplain_Shelf_marked_bpp_b3 sc x6) (fun se a w_ => Fr a 93 [(2, v2), (13, .int .i64 sc), (60, v0_1), (61, .int .i64 (a0.ints.length : Int)), (62, .int .i64 sc), (67, v6), (68, .int .i64 (x6.length : Int)), (69, .int .i64 se)] ∧ SL w FF w_ [Blk g0 32 [v0_0, v0_1]]) H ?_ ?_
    ·exact ⟨F.sub ⟨rfl, rfl, rfl, rfl, rfl, rfl, rfl, rfl, trivial⟩, sd⟩
    intro se _ w9 h15 o9 H hr
    obtain ⟨F, sf⟩ := h15
    replace H : provisoplain_Shelf_marked_bpp_b3 sc x6 se = some o9 := H
    unfold provisoplain_Shelf_marked_bpp_b3 at H
    refine Af <| Aj <| Ai F (Aa (Br rfl rfl) <| Ae) fun _ F => Ah <| Ad <| Af <| Be F rfl (fun h16 => ?_) (fun h16 => ?_)
    ·replace H := Bh h16 H
     refine Av <| Ad <| Af <| Aq <| Af <| Aj ?_
     obtain ⟨x7, h17, H⟩ := Ao H
     obtain ⟨a8, h18, h19⟩ := idxL (Flat.int .i64) (rdL h14 sf) Fx.sl57 rfl h17
     refine Ai F (Aa (h18 _ _ _ _ _ _ _ _ _ _ rfl rfl) <| Aa (Bc Fx.nag3 rfl (Cells.at_ h19 (o := 0) rfl)) <| Aa (Al rfl) <| Ae) fun _ F => Ah <| Ad <| Af <| Aj ?_
     obtain ⟨x8, h1a, H⟩ := Ao H
     refine Ai F (Aa (Ac rfl) <| Aa (Ac rfl) <| Ae) fun _ F => Bg (args := [.tmp 74]) F Fx.fn33 rfl (provisoplain_mark_c (a0 := sc)    h1a) rfl fun v7 wa _ h1b F => ?_
     obtain ⟨rfl, h1c⟩ := h1b
     have sg := sf.add h1c
     refine Ai F (Aa (ex_ne rfl rfl) <| Ae) fun _ F => Ah <| Ad <| Be F rfl (fun h1d => ?_) (fun h1d => ?_)
     ·replace H := Bh h1d H
      refine Af <| Aj <| Ai F (Aa (Al rfl) <| Ae) fun _ F => Ah <| Ad ?_
      obtain rfl := An H
      obtain rfl := hr _ rfl
      replace H := R4
      try dsimp only at H
      obtain rfl := An H
      obtain rfl := hr _ rfl
      replace H := R3
      try dsimp only at H
      obtain rfl := An H
      refine Ax <| blk_r <| As <| As <| blk_r <| As <| As <| blk_r <| As <| As <| blk_r <| As <| As ?_
      refine Au (rs := [.tmp 6]) (vs := [.bool false]) F (by rfl) ⟨_, _, rfl, At rfl, rfl⟩ ⟨_, rfl, ⟨rfl, sg⟩⟩
     replace H := Bi h1d H
     refine Av <| Bs <| Ad <| Aj <| Ai F (Aa (Bb rfl rfl) <| Aa (Ac rfl) <| Ae) fun _ F => Ah ?_
     obtain rfl := An H
     refine Ad ?_
     exact ⟨_, rfl, F.sub ⟨rfl, rfl, rfl, rfl, rfl, rfl, rfl, rfl, trivial⟩, sg⟩
    replace H := Bi h16 H
    refine Bf <| Aw <| Aw <| Bj ?_
    obtain rfl := An H
    obtain rfl := hr _ rfl
    refine Ad ?_
    exact ⟨_, rfl, F.sub ⟨rfl, rfl, rfl, rfl, rfl, trivial⟩, sf⟩
   intro _ wb hJ
   obtain ⟨p4, rfl, F, sh⟩ := hJ
   have H := R4
   clear R4 H4
   try dsimp only at H
   refine Ad <| Af <| Aj ?_
   obtain ⟨x9, h1e, H⟩ := Ao H
   obtain ⟨a9, c3, G3, h1f, h1g, h1h, h1i⟩ := Rd.idx hr2 Fx.sl30 rfl h1e
   obtain ⟨v8, rfl, h1j⟩ := (rd_sl h1h h1i)
   replace h1g := h1g _ _ sh
   refine Ai F (Aa (Ac rfl) <| Aa (Ac rfl) <| Aa (h1f _ _ _ _ _ _ _ _ _ _ rfl rfl) <| Aa (Bc Fx.nag57 rfl (Cells.at_ h1g (o := 0) rfl)) <| Aa (Az rfl Try.underlying57 (Ba (rdL h1j sh))) <| Aa (Ac rfl) <| Ae) fun _ F => Ah <| Ad ?_
   obtain ⟨oa, H5, R5⟩ := Ao H
   clear H
   refine Bk (fun a w_ => ∃ p5 : Unit, oa = .inr (p5) ∧ Fr a 93 [(2, v2), (60, v0_1), (61, .int .i64 (a0.ints.length : Int)), (62, .int .i64 sc)] ∧ SL w FF w_ [Blk g0 32 [v0_0, v0_1]]) ?_ ?_
   ·have H := H5
    refine Aq <| wp_lp (provisoplain_Shelf_marked_bpp_b4 sc x9) (fun si a w_ => Fr a 93 [(2, v2), (13, .int .i64 sc), (60, v0_1), (61, .int .i64 (a0.ints.length : Int)), (62, .int .i64 sc), (81, v8), (82, .int .i64 (x9.length : Int)), (83, .int .i64 si)] ∧ SL w FF w_ [Blk g0 32 [v0_0, v0_1]]) H ?_ ?_
    ·exact ⟨F.sub ⟨rfl, rfl, rfl, rfl, rfl, rfl, rfl, rfl, trivial⟩, sh⟩
    intro si _ wc h1k ob H hr
    obtain ⟨F, sj⟩ := h1k
    replace H : provisoplain_Shelf_marked_bpp_b4 sc x9 si = some ob := H
    unfold provisoplain_Shelf_marked_bpp_b4 at H
    refine Af <| Aj <| Ai F (Aa (Br rfl rfl) <| Ae) fun _ F => Ah <| Ad <| Af <| Be F rfl (fun h1l => ?_) (fun h1l => ?_)
    ·replace H := Bh h1l H
     refine Av <| Ad <| Af <| Aq <| Af <| Aj ?_
     obtain ⟨xa, h1m, H⟩ := Ao H
     obtain ⟨aa, h1n, h1o⟩ := idxL (Flat.int .i64) (rdL h1j sj) Fx.sl57 rfl h1m
     refine Ai F (Aa (h1n _ _ _ _ _ _ _ _ _ _ rfl rfl) <| Aa (Bc Fx.nag3 rfl (Cells.at_ h1o (o := 0) rfl)) <| Aa (Al rfl) <| Ae) fun _ F => Ah <| Ad <| Af <| Aj ?_
     obtain ⟨xb, h1p, H⟩ := Ao H
     refine Ai F (Aa (Ac rfl) <| Aa (Ac rfl) <| Ae) fun _ F => Bg (args := [.tmp 88]) F Fx.fn33 rfl (provisoplain_mark_c (a0 := sc)    h1p) rfl fun v9 wd _ h1q F => ?_
     obtain ⟨rfl, h1r⟩ := h1q
     have sk := sj.add h1r
     refine Ai F (Aa (ex_ne rfl rfl) <| Ae) fun _ F => Ah <| Ad <| Be F rfl (fun h1s => ?_) (fun h1s => ?_)
     ·replace H := Bh h1s H
      refine Af <| Aj <| Ai F (Aa (Al rfl) <| Ae) fun _ F => Ah <| Ad ?_
      obtain rfl := An H
      obtain rfl := hr _ rfl
      replace H := R5
      try dsimp only at H
      obtain rfl := An H
      obtain rfl := hr _ rfl
      replace H := R3
      try dsimp only at H
      obtain rfl := An H
      refine Ax <| blk_r <| As <| As <| blk_r <| As <| blk_r <| As <| As <| blk_r <| As <| As ?_
      refine Au (rs := [.tmp 6]) (vs := [.bool false]) F (by rfl) ⟨_, _, rfl, At rfl, rfl⟩ ⟨_, rfl, ⟨rfl, sk⟩⟩
     replace H := Bi h1s H
     refine Av <| Bs <| Ad <| Aj <| Ai F (Aa (Bb rfl rfl) <| Aa (Ac rfl) <| Ae) fun _ F => Ah ?_
     obtain rfl := An H
     refine Ad ?_
     exact ⟨_, rfl, F.sub ⟨rfl, rfl, rfl, rfl, rfl, rfl, rfl, rfl, trivial⟩, sk⟩
    replace H := Bi h1l H
    refine Bf <| Aw <| Aw <| Bj ?_
    obtain rfl := An H
    obtain rfl := hr _ rfl
    refine Ad ?_
    exact ⟨_, rfl, F.sub ⟨rfl, rfl, rfl, rfl, trivial⟩, sj⟩
   intro _ we hJ
   obtain ⟨p5, rfl, F, sl⟩ := hJ
   have H := R5
   clear R5 H5
   try dsimp only at H
   refine Bs <| Ad <| Aj <| Ai F (Aa (Bb rfl rfl) <| Aa (Ac rfl) <| Ae) fun _ F => Ah ?_
   obtain rfl := An H
   refine Ad ?_
   exact ⟨_, rfl, F.sub ⟨rfl, rfl, rfl, rfl, trivial⟩, sl⟩
  replace H := Bi hy H
  refine Bf <| Aw <| Aw <| Bj ?_
  obtain rfl := An H
  obtain rfl := hr _ rfl
  refine Ad ?_
  exact ⟨_, rfl, F.sub trivial, sd⟩
 intro _ wf hJ
 obtain ⟨p3, rfl, F, sm⟩ := hJ
 have H := R3
 clear R3 H3
 try dsimp only at H
 refine Ad <| Af <| Aj <| Ai F (Aa (Al rfl) <| Ae) fun _ F => Ah <| Ad ?_
 obtain rfl := An H
 refine Ax ?_
 refine Au (rs := [.tmp 6]) (vs := [.bool true]) F (by rfl) ⟨_, _, rfl, At rfl, rfl⟩ ⟨_, rfl, ⟨rfl, sm⟩⟩
-- (*proviso/provisoplain.Shelf).Own
theorem app_ok_ {α : Type} {lim : Nat} {l m : List α} (h : l.length + m.length ≤ lim) : app lim l m = some (l ++ m) := by unfold app; rw [if_pos h]
theorem provisoplain_Shelf_Own_c {w : World} {FF : List Nat} {g0 : Nat} {v0_0 v0_1 : Value} {a0 : S_provisoplain_Shelf} {r : Bool} (hst : Star [Blk g0 32 [v0_0, v0_1], Sl (Ty.slice Ty.u8) v0_0 a0.bytes, Sl (Ty.slice (Ty.int .i64)) v0_1 a0.ints] w FF) (H : provisoplain_Shelf_Own a0 = some r) :
    Calls Try.prog 14 #[.pointer (some ⟨g0, 0, none⟩)] w (Ret fun u_ w_ => u_ = .bool r ∧ SL w FF w_ []) := by
 have s : SL w FF w [Blk g0 32 [v0_0, v0_1], Sl (Ty.slice Ty.u8) v0_0 a0.bytes, Sl (Ty.slice (Ty.int .i64)) v0_1 a0.ints] := SL.init w FF hst
 unfold provisoplain_Shelf_Own at H
 split at H
 case isFalse => cases H
 rename_i hC
 obtain ⟨hC1, hC2, hC3, hC4⟩ := hC
 obtain ⟨lb, hlb, s⟩ := s.f1.rows_open
 obtain ⟨li, hli, s⟩ := s.f3.rows_open
 have hx : ∀ x ∈ lb, x.2.length + 80 ≤ 140737488355328 := fun x h => hC1 x.2 (by rw [← hlb]; exact List.mem_map_of_mem h)
 have hy : ∀ x ∈ li, x.2.length + 80 ≤ 17592186044416 := fun x h => hC2 x.2 (by rw [← hli]; exact List.mem_map_of_mem h)
 have hlbl : lb.length ≤ 1048576000 := by rw [← hlb, List.length_map] at hC3; exact hC3
 have hlil : li.length ≤ 1048576000 := by rw [← hli, List.length_map] at hC4; exact hC4
 have hmlb : (mkd fB 0 lb).length = lb.length := by have := congrArg List.length (mkd_fst fB lb 0); simpa using this
 have hmli : (mkd fI 0 li).length = li.length := by have := congrArg List.length (mkd_fst fI li 0); simpa using this
 have s : SL w FF w [Rws Ty.u8 lb, Sl Ty.val v0_0 (lb.map Prod.fst), Rws (Ty.int .i64) li, Sl Ty.val v0_1 (li.map Prod.fst), Blk g0 32 [v0_0, v0_1]] := s.f1.f2.f3
 refine Bd Try.func14 rfl Try.ntmps14 (Ap rfl) (args := [.pointer (some ⟨g0, 0, none⟩)]) fun q0 F => Af <| Aj <| Ai F (Aa (Al rfl) <| Ae) fun _ F => Ah <| Ad <| Af <| Bk (fun a w_ => Fr a 115 [(0, .pointer (some ⟨g0, 0, none⟩)), (2, .bool false)] ∧ SL w FF w_ [Rws Ty.u8 (mkd fB 0 lb), Sl Ty.val v0_0 (lb.map Prod.fst), Rws (Ty.int .i64) li, Sl Ty.val v0_1 (li.map Prod.fst), Blk g0 32 [v0_0, v0_1]]) ?_ ?_
 ·refine Af <| Aj <| Ai F (Aa (Ac rfl) <| Aa (Bn rfl) <| Aa (ex_fab Fx.fa32_0 rfl rfl) <| Aa (Bc Fx.nag29 rfl (s.blk_cell (.tail _ <| .tail _ <| .tail _ <| .tail _ <| .head _) rfl)) <| Aa (Az rfl Try.underlying29 (Ba (s.own_rd (.tail _ <| .head _)))) <| Aa (Ac rfl) <| Ae) fun _ F => Ah <| Ad <| Aq <| wp_cnt lb.length (fun i a w_ => Fr a 115 [(0, .pointer (some ⟨g0, 0, none⟩)), (2, .bool false), (20, v0_0), (21, .int .i64 ((lb.map Prod.fst).length : Int)), (22, .int .i64 (i : Int))] ∧ ∃ pre todo, lb = pre ++ todo ∧ pre.length = i ∧ SL w FF w_ [Rws Ty.u8 (mkd fB 0 pre), Rws Ty.u8 todo, Sl Ty.val v0_0 (lb.map Prod.fst), Rws (Ty.int .i64) li, Sl Ty.val v0_1 (li.map Prod.fst), Blk g0 32 [v0_0, v0_1]]) ?_ ?_
  ·exact ⟨F.sub ⟨rfl, rfl, rfl, rfl, rfl, trivial⟩, [], lb, rfl, rfl, s.rows_nil⟩
  rintro i a w_ hi ⟨F, pre, todo, e1, e2, s⟩
  have hlen : (lb.map Prod.fst).length = pre.length + todo.length := by rw [e1]; simp
  rw [hlen, e2] at F
  refine Af <| Aj <| Ai F (Aa (Br rfl rfl) <| Ae) fun _ F => Ah <| Ad <| Af <| Be F rfl (fun hb => ?_) (fun hb => ?_)
  ·have hlt : i < i + todo.length := by have := of_decide_eq_true hb; omega
   obtain ⟨x, r, rfl⟩ : ∃ x r, todo = x :: r := by
     cases todo with
     | nil => simp at hlt
     | cons x r => exact ⟨x, r, rfl⟩
   have hN : i < lb.length := by rw [e1, List.length_append, List.length_cons]; omega
   refine Av <| Ad <| Af <| Aq <| Af <| Aj ?_
   obtain ⟨ad, hi2, hc⟩ := hd_idx (i := (i : Int)) (x := x.1) s (.tail _ <| .tail _ <| .head _) Fx.sl29 (by rw [e1, List.map_append, List.map_cons]; exact idx_mid (by rw [List.length_map]; exact e2))
   refine Ai F (Aa (Ac rfl) <| Aa (hi2 _ _ _ _ _ _ _ _ _ _ rfl rfl) <| Aa (Bc Fx.nag22 rfl hc) <| Aa (Al rfl) <| Aa (Al rfl) <| Ae) fun _ F => Ah <| Ad ?_
   have s := s.f1.rows_pop
   refine Af <| Aj <| Ai F (Aa (Ac rfl) <| Aa (Az rfl Try.underlying22 (Ba (s.own_rd (.head _)))) <| Aa (Ac rfl) <| Ae) fun _ F => Ah <| Ad <| Aq <| wp_cnt x.2.length (fun k a w_ => Fr a 115 [(0, .pointer (some ⟨g0, 0, none⟩)), (2, .bool false), (20, v0_0), (21, .int .i64 ((i + (x :: r).length : Nat) : Int)), (22, .int .i64 (i : Int)), (3, .int .i64 (i : Int)), (4, x.1.1), (27, x.1.1), (28, .int .i64 (x.2.length : Int)), (29, .int .i64 (k : Int))] ∧ SL w FF w_ [Sl Ty.u8 x.1.1 (List.replicate k (fB i) ++ x.2.drop k), Rws Ty.u8 r, Rws Ty.u8 (mkd fB 0 pre), Sl Ty.val v0_0 (lb.map Prod.fst), Rws (Ty.int .i64) li, Sl Ty.val v0_1 (li.map Prod.fst), Blk g0 32 [v0_0, v0_1]]) ?_ ?_
   ·exact ⟨F.sub ⟨rfl, rfl, rfl, rfl, rfl, rfl, rfl, rfl, rfl, rfl, trivial⟩, s⟩
   rintro k a w_ hk ⟨F, s⟩
   refine Af <| Aj <| Ai F (Aa (Br rfl rfl) <| Ae) fun _ F => Ah <| Ad <| Af <| Be F rfl (fun hb => ?_) (fun hb => ?_)
   ·have hk2 : k < x.2.length := by have := of_decide_eq_true hb; omega
    have hx2 : x.2.length + 80 ≤ 140737488355328 := hx x (by rw [e1]; simp)
    refine Av <| Ad <| Af <| Aq <| Af <| Aj <| Ai F (Aa (Ac rfl) <| Aa (Al rfl) <| Ae) fun _ F => Ah <| Ad <| Aj <| Ai F (Aa (Ac rfl) <| Aa (Ac rfl) <| Aa (Ac rfl) <| Ae) fun _ F => Bg (args := [.tmp 34]) F Fx.fn33 rfl (provisoplain_mark_c (a0 := (i : Int)) rfl) rfl fun u w2 _ hS F => ?_
    obtain ⟨rfl, hq⟩ := hS
    have s := s.add hq
    refine Ai F (Aa (ex_cv8 rfl Try.underlying3 Try.underlying5) <| Ae) fun _ F => ?_
    obtain ⟨ad2, hi3, he⟩ := own_idx Flat.u8 s (.head _) Fx.sl22 rfl (idx_mark hk2)
    refine Ai F (Aa (hi3 _ _ _ _ _ _ _ _ _ _ rfl rfl) <| Ae) fun _ F => ?_
    refine st_setel (y' := fB i) Flat.u8 F s he (idx_mark hk2) rfl rfl (by rfl) Fx.sz5 fun w3 _ F s => ?_
    rw [set_mark hk2] at s
    refine Ah <| Bs <| Ad <| Aj <| Ai F (Aa (Bb rfl rfl) <| Aa (Ac rfl) <| Ae) fun _ F => Ah ?_
    rw [show IntKind.i64.wrap ((k : Int) + 1) = ((k + 1 : Nat) : Int) from by rw [wrap_small (n := (k : Int) + 1) (by omega) (by omega)]; omega] at F
    refine Ad ?_
    exact ⟨hk2, F.sub ⟨rfl, rfl, rfl, rfl, rfl, rfl, rfl, rfl, rfl, rfl, trivial⟩, s⟩
   have hk2 : k = x.2.length := by have := of_decide_eq_false hb; omega
   refine Bf <| Aw <| Aw <| Bj ?_
   rw [end_mark hk2] at s
   have s := s.f2.f1.rows_push
   rw [show mkd fB 0 pre ++ [(x.1, List.replicate x.2.length (fB i))] = mkd fB 0 (pre ++ [x]) from by rw [mkd_snoc, Nat.zero_add, e2]] at s
   refine Bs <| Ad <| Aj <| Ai F (Aa (Bb rfl rfl) <| Aa (Ac rfl) <| Ae) fun _ F => Ah <| Ad ?_
   rw [show IntKind.i64.wrap ((i : Int) + 1) = ((i + 1 : Nat) : Int) from by rw [wrap_small (n := (i : Int) + 1) (by omega) (by omega)]; omega] at F
   rw [show ((i + (x :: r).length : Nat) : Int) = ((lb.map Prod.fst).length : Int) from by rw [hlen, e2]] at F
   exact ⟨hN, F.sub ⟨rfl, rfl, rfl, rfl, rfl, trivial⟩, pre ++ [x], r, by rw [e1]; simp, by simp [e2], s⟩
  have h0 : todo = [] := by
    have := of_decide_eq_false hb
    exact List.eq_nil_of_length_eq_zero (by omega)
  subst h0
  obtain rfl : lb = pre := by rw [e1, List.append_nil]
  refine Bf <| Aw <| Aw <| Bj <| Ad ?_
  exact ⟨F.sub ⟨rfl, rfl, trivial⟩, s.f1.drop⟩
 intro a w_ hJ
 obtain ⟨F, s⟩ := hJ
 refine Ad ?_
 have hxB := hx
 clear hx
 have hx := hy
 have s : SL w FF w_ [Rws (Ty.int .i64) li, Sl Ty.val v0_1 (li.map Prod.fst), Rws Ty.u8 (mkd fB 0 lb), Sl Ty.val v0_0 (lb.map Prod.fst), Blk g0 32 [v0_0, v0_1]] := s.f3.f3
 refine Af <| Bk (fun a w_ => Fr a 115 [(0, .pointer (some ⟨g0, 0, none⟩)), (2, .bool false)] ∧ SL w FF w_ [Rws (Ty.int .i64) (mkd fI 0 li), Sl Ty.val v0_1 (li.map Prod.fst), Rws Ty.u8 (mkd fB 0 lb), Sl Ty.val v0_0 (lb.map Prod.fst), Blk g0 32 [v0_0, v0_1]]) ?_ ?_
 ·refine Af <| Aj <| Ai F (Aa (Ac rfl) <| Aa (Bn rfl) <| Aa (ex_fab Fx.fa32_1 rfl rfl) <| Aa (Bc Fx.nag30 rfl (s.blk_cell (.tail _ <| .tail _ <| .tail _ <| .tail _ <| .head _) rfl)) <| Aa (Az rfl Try.underlying30 (Ba (s.own_rd (.tail _ <| .head _)))) <| Aa (Ac rfl) <| Ae) fun _ F => Ah <| Ad <| Aq <| wp_cnt li.length (fun i a w_ => Fr a 115 [(0, .pointer (some ⟨g0, 0, none⟩)), (2, .bool false), (43, v0_1), (44, .int .i64 ((li.map Prod.fst).length : Int)), (45, .int .i64 (i : Int))] ∧ ∃ pre todo, li = pre ++ todo ∧ pre.length = i ∧ SL w FF w_ [Rws (Ty.int .i64) (mkd fI 0 pre), Rws (Ty.int .i64) todo, Sl Ty.val v0_1 (li.map Prod.fst), Rws Ty.u8 (mkd fB 0 lb), Sl Ty.val v0_0 (lb.map Prod.fst), Blk g0 32 [v0_0, v0_1]]) ?_ ?_
  ·exact ⟨F.sub ⟨rfl, rfl, rfl, rfl, rfl, trivial⟩, [], li, rfl, rfl, s.rows_nil⟩
  rintro i a w_ hi ⟨F, pre, todo, e1, e2, s⟩
  have hlen : (li.map Prod.fst).length = pre.length + todo.length := by rw [e1]; simp
  rw [hlen, e2] at F
  refine Af <| Aj <| Ai F (Aa (Br rfl rfl) <| Ae) fun _ F => Ah <| Ad <| Af <| Be F rfl (fun hb => ?_) (fun hb => ?_)
  ·have hlt : i < i + todo.length := by have := of_decide_eq_true hb; omega
   obtain ⟨x, r, rfl⟩ : ∃ x r, todo = x :: r := by
     cases todo with
     | nil => simp at hlt
     | cons x r => exact ⟨x, r, rfl⟩
   have hN : i < li.length := by rw [e1, List.length_append, List.length_cons]; omega
   refine Av <| Ad <| Af <| Aq <| Af <| Aj ?_
   obtain ⟨ad, hi2, hc⟩ := hd_idx (i := (i : Int)) (x := x.1) s (.tail _ <| .tail _ <| .head _) Fx.sl30 (by rw [e1, List.map_append, List.map_cons]; exact idx_mid (by rw [List.length_map]; exact e2))
   refine Ai F (Aa (Ac rfl) <| Aa (hi2 _ _ _ _ _ _ _ _ _ _ rfl rfl) <| Aa (Bc Fx.nag57 rfl hc) <| Aa (Al rfl) <| Aa (Al rfl) <| Ae) fun _ F => Ah <| Ad ?_
   have s := s.f1.rows_pop
   refine Af <| Aj <| Ai F (Aa (Ac rfl) <| Aa (Az rfl Try.underlying57 (Ba (s.own_rd (.head _)))) <| Aa (Ac rfl) <| Ae) fun _ F => Ah <| Ad <| Aq <| wp_cnt x.2.length (fun k a w_ => Fr a 115 [(0, .pointer (some ⟨g0, 0, none⟩)), (2, .bool false), (43, v0_1), (44, .int .i64 ((i + (x :: r).length : Nat) : Int)), (45, .int .i64 (i : Int)), (6, .int .i64 (i : Int)), (7, x.1.1), (50, x.1.1), (51, .int .i64 (x.2.length : Int)), (52, .int .i64 (k : Int))] ∧ SL w FF w_ [Sl (Ty.int .i64) x.1.1 (List.replicate k (fI i) ++ x.2.drop k), Rws (Ty.int .i64) r, Rws (Ty.int .i64) (mkd fI 0 pre), Sl Ty.val v0_1 (li.map Prod.fst), Rws Ty.u8 (mkd fB 0 lb), Sl Ty.val v0_0 (lb.map Prod.fst), Blk g0 32 [v0_0, v0_1]]) ?_ ?_
   ·exact ⟨F.sub ⟨rfl, rfl, rfl, rfl, rfl, rfl, rfl, rfl, rfl, rfl, trivial⟩, s⟩
   rintro k a w_ hk ⟨F, s⟩
   refine Af <| Aj <| Ai F (Aa (Br rfl rfl) <| Ae) fun _ F => Ah <| Ad <| Af <| Be F rfl (fun hb => ?_) (fun hb => ?_)
   ·have hk2 : k < x.2.length := by have := of_decide_eq_true hb; omega
    have hx2 : x.2.length + 80 ≤ 17592186044416 := hx x (by rw [e1]; simp)
    refine Av <| Ad <| Af <| Aq <| Af <| Aj <| Ai F (Aa (Ac rfl) <| Aa (Al rfl) <| Ae) fun _ F => Ah <| Ad <| Aj <| Ai F (Aa (Ac rfl) <| Aa (Ac rfl) <| Aa (Ac rfl) <| Ae) fun _ F => Bg (args := [.tmp 57]) F Fx.fn33 rfl (provisoplain_mark_c (a0 := (i : Int)) rfl) rfl fun u w2 _ hS F => ?_
    obtain ⟨rfl, hq⟩ := hS
    have s := s.add hq
    obtain ⟨ad2, hi3, he⟩ := own_idx (Flat.int .i64) s (.head _) Fx.sl57 rfl (idx_mark hk2)
    refine Ai F (Aa (hi3 _ _ _ _ _ _ _ _ _ _ rfl rfl) <| Ae) fun _ F => ?_
    refine st_setel (y' := fI i) (Flat.int .i64) F s he (idx_mark hk2) rfl rfl (by rfl) Fx.sz3 fun w3 _ F s => ?_
    rw [set_mark hk2] at s
    refine Ah <| Bs <| Ad <| Aj <| Ai F (Aa (Bb rfl rfl) <| Aa (Ac rfl) <| Ae) fun _ F => Ah ?_
    rw [show IntKind.i64.wrap ((k : Int) + 1) = ((k + 1 : Nat) : Int) from by rw [wrap_small (n := (k : Int) + 1) (by omega) (by omega)]; omega] at F
    refine Ad ?_
    exact ⟨hk2, F.sub ⟨rfl, rfl, rfl, rfl, rfl, rfl, rfl, rfl, rfl, rfl, trivial⟩, s⟩
   have hk2 : k = x.2.length := by have := of_decide_eq_false hb; omega
   refine Bf <| Aw <| Aw <| Bj ?_
   rw [end_mark hk2] at s
   have s := s.f2.f1.rows_push
   rw [show mkd fI 0 pre ++ [(x.1, List.replicate x.2.length (fI i))] = mkd fI 0 (pre ++ [x]) from by rw [mkd_snoc, Nat.zero_add, e2]] at s
   refine Bs <| Ad <| Aj <| Ai F (Aa (Bb rfl rfl) <| Aa (Ac rfl) <| Ae) fun _ F => Ah <| Ad ?_
   rw [show IntKind.i64.wrap ((i : Int) + 1) = ((i + 1 : Nat) : Int) from by rw [wrap_small (n := (i : Int) + 1) (by omega) (by omega)]; omega] at F
   rw [show ((i + (x :: r).length : Nat) : Int) = ((li.map Prod.fst).length : Int) from by rw [hlen, e2]] at F
   exact ⟨hN, F.sub ⟨rfl, rfl, rfl, rfl, rfl, trivial⟩, pre ++ [x], r, by rw [e1]; simp, by simp [e2], s⟩
  have h0 : todo = [] := by
    have := of_decide_eq_false hb
    exact List.eq_nil_of_length_eq_zero (by omega)
  subst h0
  obtain rfl : li = pre := by rw [e1, List.append_nil]
  refine Bf <| Aw <| Aw <| Bj <| Ad ?_
  exact ⟨F.sub ⟨rfl, rfl, trivial⟩, s.f1.drop⟩
 intro a w_ hJ
 obtain ⟨F, s⟩ := hJ
 refine Ad <| Af <| Aj <| Ai F (Aa (Al rfl) <| Ae) fun _ F => Ah <| Ad <| Af <| Aj <| Ai F (Aa (Al rfl) <| Ae) fun _ F => Ah <| Ad ?_
 clear hx
 have hx := hxB
 have s : SL w FF w_ [Rws Ty.u8 (mkd fB 0 lb), Sl Ty.val v0_0 (lb.map Prod.fst), Rws (Ty.int .i64) (mkd fI 0 li), Sl Ty.val v0_1 (li.map Prod.fst), Blk g0 32 [v0_0, v0_1]] := s.f3.f3
 refine Af <| Bk (fun a w_ => ∃ (vm : Value) (d : List ((V1 × List UInt8) × (V1 × List UInt8))), Fr a 115 [(0, .pointer (some ⟨g0, 0, none⟩)), (2, .bool false), (10, .slice none 0 0), (9, vm)] ∧ d.map Prod.fst = (mkd fB 0 lb) ∧ (d.map fun y => y.2.2) = mores fB 0 ((mkd fB 0 lb).map Prod.snd) ∧ SL w FF w_ [Sl Ty.val vm (d.map fun y => y.2.1), Twos Ty.u8 d, Sl Ty.val v0_0 (lb.map Prod.fst), Rws (Ty.int .i64) (mkd fI 0 li), Sl Ty.val v0_1 (li.map Prod.fst), Blk g0 32 [v0_0, v0_1]]) ?_ ?_
 ·refine Af <| Aj <| Ai F (Aa (Ac rfl) <| Aa (Bn rfl) <| Aa (ex_fab Fx.fa32_0 rfl rfl) <| Aa (Bc Fx.nag29 rfl (s.blk_cell (.tail _ <| .tail _ <| .tail _ <| .tail _ <| .head _) rfl)) <| Aa (Az rfl Try.underlying29 (Ba (s.own_rd (.tail _ <| .head _)))) <| Aa (Ac rfl) <| Ae) fun _ F => Ah <| Ad <| Aq <| wp_cnt (mkd fB 0 lb).length (fun i a w_ => ∃ (vm : Value) (d : List ((V1 × List UInt8) × (V1 × List UInt8))) (pre todo : List (V1 × List UInt8)), Fr a 115 [(0, .pointer (some ⟨g0, 0, none⟩)), (2, .bool false), (10, .slice none 0 0), (65, v0_0), (66, .int .i64 ((lb.map Prod.fst).length : Int)), (67, .int .i64 (i : Int)), (9, vm)] ∧ (mkd fB 0 lb) = pre ++ todo ∧ pre.length = i ∧ d.map Prod.fst = pre ∧ (d.map fun y => y.2.2) = mores fB 0 (pre.map Prod.snd) ∧ SL w FF w_ [Sl Ty.val vm (d.map fun y => y.2.1), Twos Ty.u8 d, Rws Ty.u8 todo, Sl Ty.val v0_0 (lb.map Prod.fst), Rws (Ty.int .i64) (mkd fI 0 li), Sl Ty.val v0_1 (li.map Prod.fst), Blk g0 32 [v0_0, v0_1]]) ?_ ?_
  ·exact ⟨.slice none 0 0, [], [], (mkd fB 0 lb), F.sub ⟨rfl, rfl, rfl, rfl, rfl, rfl, rfl, trivial⟩, rfl, rfl, rfl, rfl, SL.nilSl s.twos_nil⟩
  rintro i a w_ hi ⟨vm, d, pre, todo, F, e1, e2, e3, e4, s⟩
  have hmf : (mkd fB 0 lb).map Prod.fst = lb.map Prod.fst := mkd_fst _ _ _
  have hlen : (lb.map Prod.fst).length = pre.length + todo.length := by rw [← hmf, e1]; simp
  rw [hlen, e2] at F
  refine Af <| Aj <| Ai F (Aa (Br rfl rfl) <| Ae) fun _ F => Ah <| Ad <| Af <| Be F rfl (fun hb => ?_) (fun hb => ?_)
  ·have hlt : i < i + todo.length := by have := of_decide_eq_true hb; omega
   obtain ⟨x, r, rfl⟩ : ∃ x r, todo = x :: r := by
     cases todo with
     | nil => simp at hlt
     | cons x r => exact ⟨x, r, rfl⟩
   have hN : i < (mkd fB 0 lb).length := by rw [e1, List.length_append, List.length_cons]; omega
   have hNl : (mkd fB 0 lb).length = lb.length := by have := congrArg List.length hmf; simpa using this
   have hx2 : x.2.length + 80 ≤ 140737488355328 := by
     obtain ⟨y, hy, hyl⟩ := marks_len fB (lb.map Prod.snd) 0 x.2 (by rw [← mkd_snd, e1]; simp)
     obtain ⟨z, hz, rfl⟩ := List.mem_map.1 hy
     have := hx z hz
     omega
   refine Av <| Ad <| Af <| Aq <| Af <| Aj ?_
   obtain ⟨ad, hi2, hc⟩ := hd_idx (i := (i : Int)) (x := x.1) s (.tail _ <| .tail _ <| .tail _ <| .head _) Fx.sl29 (by rw [← hmf, e1, List.map_append, List.map_cons]; exact idx_mid (by rw [List.length_map]; exact e2))
   refine Ai F (Aa (Ac rfl) <| Aa (hi2 _ _ _ _ _ _ _ _ _ _ rfl rfl) <| Aa (Bc Fx.nag22 rfl hc) <| Aa (Al rfl) <| Aa (Al rfl) <| Ae) fun _ F => Ah <| Ad ?_
   have s := s.f2.rows_pop.gw_init
   refine Af <| Aj <| Ai F (Aa (Ac rfl) <| Aa (Al rfl) <| Ae) fun _ F => Ah <| Ad <| Af <| Bk (fun a w_ => ∃ vg : Value, Fr a 115 [(0, .pointer (some ⟨g0, 0, none⟩)), (2, .bool false), (10, .slice none 0 0), (65, v0_0), (9, vm), (66, .int .i64 ((i + (x :: r).length : Nat) : Int)), (67, .int .i64 (i : Int)), (11, .int .i64 (i : Int)), (13, vg)] ∧ SL w FF w_ [Gw Ty.u8 x.1.1 x.2 vg (x.2 ++ List.replicate 80 (fB i)), Rws Ty.u8 r, Sl Ty.val vm (d.map fun y => y.2.1), Twos Ty.u8 d, Sl Ty.val v0_0 (lb.map Prod.fst), Rws (Ty.int .i64) (mkd fI 0 li), Sl Ty.val v0_1 (li.map Prod.fst), Blk g0 32 [v0_0, v0_1]]) ?_ ?_
   ·refine Af <| Aj <| Ai F (Aa (Ac rfl) <| Ae) fun _ F => Ah <| Ad <| Aq <| wp_cnt 80 (fun k a w_ => ∃ vg : Value, Fr a 115 [(0, .pointer (some ⟨g0, 0, none⟩)), (2, .bool false), (10, .slice none 0 0), (65, v0_0), (9, vm), (66, .int .i64 ((i + (x :: r).length : Nat) : Int)), (67, .int .i64 (i : Int)), (11, .int .i64 (i : Int)), (13, vg), (73, .int .i64 (k : Int))] ∧ SL w FF w_ [Gw Ty.u8 x.1.1 x.2 vg (x.2 ++ List.replicate k (fB i)), Rws Ty.u8 r, Sl Ty.val vm (d.map fun y => y.2.1), Twos Ty.u8 d, Sl Ty.val v0_0 (lb.map Prod.fst), Rws (Ty.int .i64) (mkd fI 0 li), Sl Ty.val v0_1 (li.map Prod.fst), Blk g0 32 [v0_0, v0_1]]) ?_ ?_
    ·exact ⟨x.1.1, F.sub ⟨rfl, rfl, rfl, rfl, rfl, rfl, rfl, rfl, rfl, rfl, trivial⟩, by simpa using s⟩
    rintro k a w_ hk ⟨vg, F, s⟩
    refine Af <| Aj <| Ai F (Aa (Br rfl rfl) <| Ae) fun _ F => Ah <| Ad <| Af <| Be F rfl (fun hb => ?_) (fun hb => ?_)
    ·have hk2 : k < 80 := by have := of_decide_eq_true hb; omega
     refine Av <| Ad <| Af <| Aq <| Aj <| Ai F (Aa (Ac rfl) <| Aa (Ac rfl) <| Ae) fun _ F => Bg (args := [.tmp 76]) F Fx.fn33 rfl (provisoplain_mark_c (a0 := (i : Int)) rfl) rfl fun u w2 _ hS F => ?_
     obtain ⟨rfl, hq⟩ := hS
     have s := s.add hq
     refine Ai F (Aa (ex_cv8 rfl Try.underlying3 Try.underlying5) <| Ae) fun _ F => ?_
     refine st_bslice (parts := [(0, .tmp 78)]) Flat.u8 [fB i] F s Fx.sl22 rfl (by decide) rfl rfl rfl (by simp [Value.cells]) rfl rfl rfl fun vn w3 _ F s => ?_
     obtain ⟨_, hr_⟩ := s.own_rd (.head _)
     have s := s.f1
     refine st_append_gw Flat.u8 F s Fx.sl22 rfl rfl rfl rfl hr_ rfl rfl (lim := 140737488355328) (s := x.2 ++ List.replicate (k + 1) (fB i)) (by unfold app; rw [if_pos (by simp; omega), List.append_assoc, List.replicate_succ']) rfl fun vg w4 _ F s => ?_
     have s := s.f1.drop
     refine Ai F (Aa (Al rfl) <| Ae) fun _ F => Ah <| Bs <| Ad <| Aj <| Ai F (Aa (Bb rfl rfl) <| Aa (Ac rfl) <| Ae) fun _ F => Ah <| Ad ?_
     rw [show IntKind.i64.wrap ((k : Int) + 1) = ((k + 1 : Nat) : Int) from by rw [wrap_small (n := (k : Int) + 1) (by omega) (by omega)]; omega] at F
     exact ⟨hk2, vg, F.sub ⟨rfl, rfl, rfl, rfl, rfl, rfl, rfl, rfl, rfl, rfl, trivial⟩, s⟩
    have hk2 : k = 80 := by have := of_decide_eq_false hb; omega
    subst hk2
    refine Bf <| Aw <| Aw <| Bj <| Ad ?_
    exact ⟨vg, F.sub ⟨rfl, rfl, rfl, rfl, rfl, rfl, rfl, rfl, rfl, trivial⟩, s⟩
   intro a w_ hJ
   obtain ⟨vg, F, s⟩ := hJ
   refine Ad ?_
   obtain ⟨Ag, cg, hvg⟩ := s.gw_form
   have h1g : vg.oneCell' = true := by rw [hvg]; rfl
   have hcg : vg.cells = ⟨[vg]⟩ := by rw [hvg]; rfl
   refine Aj <| Ai F (Aa (Ac rfl) <| Aa (Ac rfl) <| Ae) fun _ F => ?_
   refine st_bslice (parts := [(0, .tmp 83)]) (vs := [vg]) Flat.val [⟨vg, h1g⟩] F s Fx.sl29 rfl (by decide) rfl rfl rfl (by simp [hcg]) (by simp [hcg]) rfl rfl fun vn w3 _ F s => ?_
   obtain ⟨_, hr_⟩ := s.own_rd (.head _)
   have s := s.f3
   refine Bo Flat.val F s Fx.sl29 rfl rfl rfl rfl hr_ rfl rfl (lim := 5864062014805) (app_ok_ (by rw [List.length_map]; have := congrArg List.length e3; rw [List.length_map] at this; simp only [List.length_cons, List.length_nil]; omega)) rfl fun vm2 w4 _ F s => ?_
   have s := s.f1.drop
   have s := s.f3.f2.gw_two (u := x.1) (v := ⟨vg, h1g⟩)
   refine Ai F (Aa (Al rfl) <| Ae) fun _ F => Ah <| Bs <| Ad <| Aj <| Ai F (Aa (Bb rfl rfl) <| Aa (Ac rfl) <| Ae) fun _ F => Ah <| Ad ?_
   rw [show IntKind.i64.wrap ((i : Int) + 1) = ((i + 1 : Nat) : Int) from by rw [wrap_small (n := (i : Int) + 1) (by omega) (by omega)]; omega] at F
   rw [show ((i + (x :: r).length : Nat) : Int) = ((lb.map Prod.fst).length : Int) from by rw [hlen, e2]] at F
   obtain ⟨g1, g2⟩ := dt_snoc (x := x) (vg := ⟨vg, h1g⟩) e3 e4 e2
   exact ⟨hN, vm2, _, pre ++ [x], r, F.sub ⟨rfl, rfl, rfl, rfl, rfl, rfl, rfl, trivial⟩, by rw [e1]; simp, by simp [e2], g1, g2, by rw [List.map_append]; exact s.f1⟩
  have h0 : todo = [] := by
    have := of_decide_eq_false hb
    exact List.eq_nil_of_length_eq_zero (by omega)
  subst h0
  obtain rfl : (mkd fB 0 lb) = pre := by rw [e1, List.append_nil]
  refine Bf <| Aw <| Aw <| Bj <| Ad ?_
  exact ⟨vm, d, F.sub ⟨rfl, rfl, rfl, rfl, trivial⟩, e3, e4, s.f2.drop⟩
 intro a w_ hJ
 obtain ⟨vmb, db, F, e3b, e4b, s⟩ := hJ
 refine Ad ?_
 clear hx
 have hx := hy
 have s := s.f3.f4
 have s : SL w FF w_ [Rws (Ty.int .i64) (mkd fI 0 li), Sl Ty.val v0_1 (li.map Prod.fst), Sl Ty.val vmb (db.map fun y => y.2.1), Twos Ty.u8 db, Sl Ty.val v0_0 (lb.map Prod.fst), Blk g0 32 [v0_0, v0_1]] := s.f1
 refine Af <| Bk (fun a w_ => ∃ (vm : Value) (d : List ((V1 × List Int) × (V1 × List Int))), Fr a 115 [(0, .pointer (some ⟨g0, 0, none⟩)), (2, .bool false), (9, vmb), (10, vm)] ∧ d.map Prod.fst = (mkd fI 0 li) ∧ (d.map fun y => y.2.2) = mores fI 0 ((mkd fI 0 li).map Prod.snd) ∧ SL w FF w_ [Sl Ty.val vm (d.map fun y => y.2.1), Twos (Ty.int .i64) d, Sl Ty.val v0_1 (li.map Prod.fst), Sl Ty.val vmb (db.map fun y => y.2.1), Twos Ty.u8 db, Sl Ty.val v0_0 (lb.map Prod.fst), Blk g0 32 [v0_0, v0_1]]) ?_ ?_
 ·refine Af <| Aj <| Ai F (Aa (Ac rfl) <| Aa (Bn rfl) <| Aa (ex_fab Fx.fa32_1 rfl rfl) <| Aa (Bc Fx.nag30 rfl (s.blk_cell (.tail _ <| .tail _ <| .tail _ <| .tail _ <| .tail _ <| .head _) rfl)) <| Aa (Az rfl Try.underlying30 (Ba (s.own_rd (.tail _ <| .head _)))) <| Aa (Ac rfl) <| Ae) fun _ F => Ah <| Ad <| Aq <| wp_cnt (mkd fI 0 li).length (fun i a w_ => ∃ (vm : Value) (d : List ((V1 × List Int) × (V1 × List Int))) (pre todo : List (V1 × List Int)), Fr a 115 [(0, .pointer (some ⟨g0, 0, none⟩)), (2, .bool false), (9, vmb), (90, v0_1), (91, .int .i64 ((li.map Prod.fst).length : Int)), (92, .int .i64 (i : Int)), (10, vm)] ∧ (mkd fI 0 li) = pre ++ todo ∧ pre.length = i ∧ d.map Prod.fst = pre ∧ (d.map fun y => y.2.2) = mores fI 0 (pre.map Prod.snd) ∧ SL w FF w_ [Sl Ty.val vm (d.map fun y => y.2.1), Twos (Ty.int .i64) d, Rws (Ty.int .i64) todo, Sl Ty.val v0_1 (li.map Prod.fst), Sl Ty.val vmb (db.map fun y => y.2.1), Twos Ty.u8 db, Sl Ty.val v0_0 (lb.map Prod.fst), Blk g0 32 [v0_0, v0_1]]) ?_ ?_
  ·exact ⟨.slice none 0 0, [], [], (mkd fI 0 li), F.sub ⟨rfl, rfl, rfl, rfl, rfl, rfl, rfl, trivial⟩, rfl, rfl, rfl, rfl, SL.nilSl s.twos_nil⟩
  rintro i a w_ hi ⟨vm, d, pre, todo, F, e1, e2, e3, e4, s⟩
  have hmf : (mkd fI 0 li).map Prod.fst = li.map Prod.fst := mkd_fst _ _ _
  have hlen : (li.map Prod.fst).length = pre.length + todo.length := by rw [← hmf, e1]; simp
  rw [hlen, e2] at F
  refine Af <| Aj <| Ai F (Aa (Br rfl rfl) <| Ae) fun _ F => Ah <| Ad <| Af <| Be F rfl (fun hb => ?_) (fun hb => ?_)
  ·have hlt : i < i + todo.length := by have := of_decide_eq_true hb; omega
   obtain ⟨x, r, rfl⟩ : ∃ x r, todo = x :: r := by
     cases todo with
     | nil => simp at hlt
     | cons x r => exact ⟨x, r, rfl⟩
   have hN : i < (mkd fI 0 li).length := by rw [e1, List.length_append, List.length_cons]; omega
   have hNl : (mkd fI 0 li).length = li.length := by have := congrArg List.length hmf; simpa using this
   have hx2 : x.2.length + 80 ≤ 17592186044416 := by
     obtain ⟨y, hy, hyl⟩ := marks_len fI (li.map Prod.snd) 0 x.2 (by rw [← mkd_snd, e1]; simp)
     obtain ⟨z, hz, rfl⟩ := List.mem_map.1 hy
     have := hx z hz
     omega
   refine Av <| Ad <| Af <| Aq <| Af <| Aj ?_
   obtain ⟨ad, hi2, hc⟩ := hd_idx (i := (i : Int)) (x := x.1) s (.tail _ <| .tail _ <| .tail _ <| .head _) Fx.sl30 (by rw [← hmf, e1, List.map_append, List.map_cons]; exact idx_mid (by rw [List.length_map]; exact e2))
   refine Ai F (Aa (Ac rfl) <| Aa (hi2 _ _ _ _ _ _ _ _ _ _ rfl rfl) <| Aa (Bc Fx.nag57 rfl hc) <| Aa (Al rfl) <| Aa (Al rfl) <| Ae) fun _ F => Ah <| Ad ?_
   have s := s.f2.rows_pop.gw_init
   refine Af <| Aj <| Ai F (Aa (Ac rfl) <| Aa (Al rfl) <| Ae) fun _ F => Ah <| Ad <| Af <| Bk (fun a w_ => ∃ vg : Value, Fr a 115 [(0, .pointer (some ⟨g0, 0, none⟩)), (2, .bool false), (9, vmb), (90, v0_1), (10, vm), (91, .int .i64 ((i + (x :: r).length : Nat) : Int)), (92, .int .i64 (i : Int)), (14, .int .i64 (i : Int)), (16, vg)] ∧ SL w FF w_ [Gw (Ty.int .i64) x.1.1 x.2 vg (x.2 ++ List.replicate 80 (fI i)), Rws (Ty.int .i64) r, Sl Ty.val vm (d.map fun y => y.2.1), Twos (Ty.int .i64) d, Sl Ty.val v0_1 (li.map Prod.fst), Sl Ty.val vmb (db.map fun y => y.2.1), Twos Ty.u8 db, Sl Ty.val v0_0 (lb.map Prod.fst), Blk g0 32 [v0_0, v0_1]]) ?_ ?_
   ·refine Af <| Aj <| Ai F (Aa (Ac rfl) <| Ae) fun _ F => Ah <| Ad <| Aq <| wp_cnt 80 (fun k a w_ => ∃ vg : Value, Fr a 115 [(0, .pointer (some ⟨g0, 0, none⟩)), (2, .bool false), (9, vmb), (90, v0_1), (10, vm), (91, .int .i64 ((i + (x :: r).length : Nat) : Int)), (92, .int .i64 (i : Int)), (14, .int .i64 (i : Int)), (16, vg), (98, .int .i64 (k : Int))] ∧ SL w FF w_ [Gw (Ty.int .i64) x.1.1 x.2 vg (x.2 ++ List.replicate k (fI i)), Rws (Ty.int .i64) r, Sl Ty.val vm (d.map fun y => y.2.1), Twos (Ty.int .i64) d, Sl Ty.val v0_1 (li.map Prod.fst), Sl Ty.val vmb (db.map fun y => y.2.1), Twos Ty.u8 db, Sl Ty.val v0_0 (lb.map Prod.fst), Blk g0 32 [v0_0, v0_1]]) ?_ ?_
    ·exact ⟨x.1.1, F.sub ⟨rfl, rfl, rfl, rfl, rfl, rfl, rfl, rfl, rfl, rfl, trivial⟩, by simpa using s⟩
    rintro k a w_ hk ⟨vg, F, s⟩
    refine Af <| Aj <| Ai F (Aa (Br rfl rfl) <| Ae) fun _ F => Ah <| Ad <| Af <| Be F rfl (fun hb => ?_) (fun hb => ?_)
    ·have hk2 : k < 80 := by have := of_decide_eq_true hb; omega
     refine Av <| Ad <| Af <| Aq <| Aj <| Ai F (Aa (Ac rfl) <| Aa (Ac rfl) <| Ae) fun _ F => Bg (args := [.tmp 101]) F Fx.fn33 rfl (provisoplain_mark_c (a0 := (i : Int)) rfl) rfl fun u w2 _ hS F => ?_
     obtain ⟨rfl, hq⟩ := hS
     have s := s.add hq
     refine st_bslice (parts := [(0, .tmp 102)]) (Flat.int .i64) [fI i] F s Fx.sl57 rfl (by decide) rfl rfl rfl (by simp [Value.cells]) rfl rfl rfl fun vn w3 _ F s => ?_
     obtain ⟨_, hr_⟩ := s.own_rd (.head _)
     have s := s.f1
     refine st_append_gw (Flat.int .i64) F s Fx.sl57 rfl rfl rfl rfl hr_ rfl rfl (lim := 17592186044416) (s := x.2 ++ List.replicate (k + 1) (fI i)) (by unfold app; rw [if_pos (by simp; omega), List.append_assoc, List.replicate_succ']) rfl fun vg w4 _ F s => ?_
     have s := s.f1.drop
     refine Ai F (Aa (Al rfl) <| Ae) fun _ F => Ah <| Bs <| Ad <| Aj <| Ai F (Aa (Bb rfl rfl) <| Aa (Ac rfl) <| Ae) fun _ F => Ah <| Ad ?_
     rw [show IntKind.i64.wrap ((k : Int) + 1) = ((k + 1 : Nat) : Int) from by rw [wrap_small (n := (k : Int) + 1) (by omega) (by omega)]; omega] at F
     exact ⟨hk2, vg, F.sub ⟨rfl, rfl, rfl, rfl, rfl, rfl, rfl, rfl, rfl, rfl, trivial⟩, s⟩
    have hk2 : k = 80 := by have := of_decide_eq_false hb; omega
    subst hk2
    refine Bf <| Aw <| Aw <| Bj <| Ad ?_
    exact ⟨vg, F.sub ⟨rfl, rfl, rfl, rfl, rfl, rfl, rfl, rfl, rfl, trivial⟩, s⟩
   intro a w_ hJ
   obtain ⟨vg, F, s⟩ := hJ
   refine Ad ?_
   obtain ⟨Ag, cg, hvg⟩ := s.gw_form
   have h1g : vg.oneCell' = true := by rw [hvg]; rfl
   have hcg : vg.cells = ⟨[vg]⟩ := by rw [hvg]; rfl
   refine Aj <| Ai F (Aa (Ac rfl) <| Aa (Ac rfl) <| Ae) fun _ F => ?_
   refine st_bslice (parts := [(0, .tmp 107)]) (vs := [vg]) Flat.val [⟨vg, h1g⟩] F s Fx.sl30 rfl (by decide) rfl rfl rfl (by simp [hcg]) (by simp [hcg]) rfl rfl fun vn w3 _ F s => ?_
   obtain ⟨_, hr_⟩ := s.own_rd (.head _)
   have s := s.f3
   refine Bo Flat.val F s Fx.sl30 rfl rfl rfl rfl hr_ rfl rfl (lim := 5864062014805) (app_ok_ (by rw [List.length_map]; have := congrArg List.length e3; rw [List.length_map] at this; simp only [List.length_cons, List.length_nil]; omega)) rfl fun vm2 w4 _ F s => ?_
   have s := s.f1.drop
   have s := s.f3.f2.gw_two (u := x.1) (v := ⟨vg, h1g⟩)
   refine Ai F (Aa (Al rfl) <| Ae) fun _ F => Ah <| Bs <| Ad <| Aj <| Ai F (Aa (Bb rfl rfl) <| Aa (Ac rfl) <| Ae) fun _ F => Ah <| Ad ?_
   rw [show IntKind.i64.wrap ((i : Int) + 1) = ((i + 1 : Nat) : Int) from by rw [wrap_small (n := (i : Int) + 1) (by omega) (by omega)]; omega] at F
   rw [show ((i + (x :: r).length : Nat) : Int) = ((li.map Prod.fst).length : Int) from by rw [hlen, e2]] at F
   obtain ⟨g1, g2⟩ := dt_snoc (x := x) (vg := ⟨vg, h1g⟩) e3 e4 e2
   exact ⟨hN, vm2, _, pre ++ [x], r, F.sub ⟨rfl, rfl, rfl, rfl, rfl, rfl, rfl, trivial⟩, by rw [e1]; simp, by simp [e2], g1, g2, by rw [List.map_append]; exact s.f1⟩
  have h0 : todo = [] := by
    have := of_decide_eq_false hb
    exact List.eq_nil_of_length_eq_zero (by omega)
  subst h0
  obtain rfl : (mkd fI 0 li) = pre := by rw [e1, List.append_nil]
  refine Bf <| Aw <| Aw <| Bj <| Ad ?_
  exact ⟨vm, d, F.sub ⟨rfl, rfl, rfl, rfl, trivial⟩, e3, e4, s.f2.drop⟩
 intro a w_ hJ
 obtain ⟨vmi, di, F, e3i, e4i, s⟩ := hJ
 refine Ad ?_
 have fstb : lb.map Prod.fst = db.map fun y : (V1 × List UInt8) × (V1 × List UInt8) => y.1.1 := by
   rw [← mkd_fst fB lb 0, ← e3b, List.map_map]; rfl
 have fsti : li.map Prod.fst = di.map fun y : (V1 × List Int) × (V1 × List Int) => y.1.1 := by
   rw [← mkd_fst fI li 0, ← e3i, List.map_map]; rfl
 have s := SL.bo (u := vmi) s.f2 fsti rfl
 have s := SL.bo (u := vmb) s.f2.f2.f3 fstb rfl
 have e5b : (db.map fun y : (V1 × List UInt8) × (V1 × List UInt8) => y.1.2) = marks fB 0 a0.bytes := by
   rw [← hlb, ← mkd_snd, ← e3b, List.map_map]; rfl
 have e5i : (di.map fun y : (V1 × List Int) × (V1 × List Int) => y.1.2) = marks fI 0 a0.ints := by
   rw [← hli, ← mkd_snd, ← e3i, List.map_map]; rfl
 rw [e5b, e4b, mkd_snd, hlb, e5i, e4i, mkd_snd, hli] at s
 have s := s.f2
 refine Af <| Aj <| Ai F (Aa (Ac rfl) <| Aa (Ac rfl) <| Aa (Ac rfl) <| Ae) fun _ F => ?_
 obtain ⟨G_, hst_, hF_, hG_, hcl_⟩ := SL.open_ (ps := [Blk g0 32 [v0_0, v0_1]]) s
 have rB := bo_rd (v := v0_0) (.head _) hG_
 have rI := bo_rd (v := v0_1) (.tail _ (.head _)) hG_
 refine Bg (args := [.tmp 111, .tmp 112, .tmp 113]) F Fx.fn34 rfl (provisoplain_Shelf_marked_bpp_c (a0 := ⟨marks fB 0 a0.bytes, marks fI 0 a0.ints⟩) hst_ rB.1 rI.1 rB.2 rI.2 H) rfl fun u w2 _ hS F => ?_
 obtain ⟨rfl, hq⟩ := hS
 have s := hcl_ _ _ hq
 refine Ai F (Aa (Al rfl) <| Ae) fun _ F => Ah <| Ad <| Ax ?_
 refine Au (rs := [.tmp 2]) (vs := [.bool r]) F (by rfl) ⟨_, _, rfl, At rfl, rfl⟩ ⟨_, rfl, rfl, s.drop.drop.drop⟩
-- proviso/provisoplain.Untouched
theorem provisoplain_Untouched_c {w : World} {v0 v1 : Value} {a0 : List UInt8} {a1 : List UInt8} {r : Bool} (hr0 : Rd Ty.u8 w [] v0 a0) (hr1 : Rd Ty.u8 w [] v1 a1) (H : provisoplain_Untouched a0 a1 = some r) :
    Calls Try.prog 15 #[v0, v1] w (Ret fun u_ w_ => u_ = .bool r ∧ SL w [] w_ []) := by
 have s0 : SL w [] w [] := SL.init0 w
 refine Bd Try.func15 rfl Try.ntmps15 (Ap rfl) (args := [v0, v1]) fun q0 F0 => ?_
 unfold provisoplain_Untouched at H
 refine Af <| Aj <| Ai F0 (Aa (Al rfl) <| Ae) fun q3 F4 => Ah <| Ad <| Af <| Aj <| Ai F4 (Aa (Ac rfl) <| Aa (Az rfl Try.underlying22 (Ba (rdL hr1 s0))) <| Aa (Al rfl) <| Ae) fun q7 F8 => Ah <| Ad <| Af <| Aj ?_
 obtain ⟨x0, h0, H⟩ := Ao H
 obtain ⟨v2, h1, h2⟩ := Rd.cut hr0 Fx.sl22 rfl h0 none (some (a1.length : Int)) (.inr ⟨rfl, rfl⟩) (.inl rfl)
 obtain ⟨x1, h3, H⟩ := Ao H
 refine Ai F8 (Aa (Ac rfl) <| Aa (Ac rfl) <| Aa (h1 _ _ _ _ _ .i64 .i64 _ _ _ _ _ rfl trivial rfl) <| Aa (Ac rfl) <| Ae) fun _ F => Bg (args := [.tmp 10, .tmp 11]) F Fx.fn32 rfl (slices_Equal_byte_byte_c (a0 := x0) (a1 := a1)   (h2.pass0 s0) (hr1.pass0 s0) h3) rfl fun v3 w0 _ h4 F => ?_
 obtain ⟨rfl, h5⟩ := h4
 have s1 := s0.add h5
 refine Ai F (Aa (Ac rfl) <| Ae) fun _ F => Bl x1 (fun h6 => ?_) (fun h6 => ?_)
 ·replace H := Bh h6 H
  refine Ar F rfl rfl (Am rfl h6) (Ac rfl) rfl rfl fun _ F => Ar F rfl rfl (Am rfl h6) (Ac rfl) rfl rfl fun _ F => ?_
  obtain ⟨x2, h7, H⟩ := Ao H
  obtain ⟨a2, h8, h9⟩ := idxL Flat.u8 (rdL hr0 s1) Fx.sl22 rfl h7
  refine Ar F rfl rfl (Am rfl h6) (h8 _ _ _ _ _ _ _ _ _ _ rfl rfl) rfl rfl fun _ F => Ar F rfl rfl (Am rfl h6) (Bc Fx.nag5 rfl (Cells.at_ h9 (o := 0) rfl)) rfl rfl fun _ F => Ar F rfl rfl (Am rfl h6) (ex_eq rfl rfl) rfl rfl fun _ F => Ai F (Aa (Bm (ev_b rfl h6) rfl) <| Aa (Ac rfl) <| Ae) fun _ F => Bl ((x2.toNat : Int) == 165) (fun ha => ?_) (fun ha => ?_)
  ·replace H := Bh ha H
   refine Ar F rfl rfl (Am rfl ha) (Ac rfl) rfl rfl fun _ F => Ar F rfl rfl (Am rfl ha) (Ac rfl) rfl rfl fun _ F => Ar F rfl rfl (Am rfl ha) (Bb rfl rfl) rfl rfl fun _ F => ?_
   obtain ⟨x3, hb, H⟩ := Ao H
   obtain ⟨a3, hc, hd⟩ := idxL Flat.u8 (rdL hr0 s1) Fx.sl22 rfl hb
   refine Ar F rfl rfl (Am rfl ha) (hc _ _ _ _ _ _ _ _ _ _ rfl rfl) rfl rfl fun _ F => Ar F rfl rfl (Am rfl ha) (Bc Fx.nag5 rfl (Cells.at_ hd (o := 0) rfl)) rfl rfl fun _ F => Ar F rfl rfl (Am rfl ha) (ex_eq rfl rfl) rfl rfl fun _ F => Ai F (Aa (Bm (ev_b rfl ha) rfl) <| Aa (Ac rfl) <| Ae) fun _ F => Bl ((x3.toNat : Int) == 90) (fun he => ?_) (fun he => ?_)
   ·replace H := Bh he H
    refine Ar F rfl rfl (Am rfl he) (Ac rfl) rfl rfl fun _ F => Ar F rfl rfl (Am rfl he) (Ac rfl) rfl rfl fun _ F => Ar F rfl rfl (Am rfl he) (Bb rfl rfl) rfl rfl fun _ F => ?_
    obtain ⟨x4, hf, H⟩ := Ao H
    obtain ⟨a4, hg, hh⟩ := idxL Flat.u8 (rdL hr0 s1) Fx.sl22 rfl hf
    refine Ar F rfl rfl (Am rfl he) (hg _ _ _ _ _ _ _ _ _ _ rfl rfl) rfl rfl fun _ F => Ar F rfl rfl (Am rfl he) (Bc Fx.nag5 rfl (Cells.at_ hh (o := 0) rfl)) rfl rfl fun _ F => Ar F rfl rfl (Am rfl he) (ex_eq rfl rfl) rfl rfl fun _ F => Ai F (Aa (Bm (ev_b rfl he) rfl) <| Aa (Ac rfl) <| Ae) fun _ F => Bl ((x4.toNat : Int) == 195) (fun hi => ?_) (fun hi => ?_)
    ·replace H := Bh hi H
     refine Ar F rfl rfl (Am rfl hi) (Ac rfl) rfl rfl fun _ F => Ar F rfl rfl (Am rfl hi) (Ac rfl) rfl rfl fun _ F => Ar F rfl rfl (Am rfl hi) (Bb rfl rfl) rfl rfl fun _ F => ?_
     obtain ⟨x5, hj, H⟩ := Ao H
     obtain ⟨a5, hk, hl⟩ := idxL Flat.u8 (rdL hr0 s1) Fx.sl22 rfl hj
     refine Ar F rfl rfl (Am rfl hi) (hk _ _ _ _ _ _ _ _ _ _ rfl rfl) rfl rfl fun _ F => Ar F rfl rfl (Am rfl hi) (Bc Fx.nag5 rfl (Cells.at_ hl (o := 0) rfl)) rfl rfl fun _ F => Ar F rfl rfl (Am rfl hi) (ex_eq rfl rfl) rfl rfl fun _ F => Ai F (Aa (Bm (ev_b rfl hi) rfl) <| Aa (Al rfl) <| Ae) fun _ F => Ah <| Ad ?_
     obtain rfl := An H
     refine Ax ?_
     refine Au (rs := [.tmp 4]) (vs := [.bool ((x5.toNat : Int) == 60)]) F (by rfl) ⟨_, _, rfl, At rfl, rfl⟩ ⟨_, rfl, ⟨rfl, s1⟩⟩
    replace H := Bi hi H
    refine Ak F rfl rfl (Am rfl hi) Ab rfl rfl fun _ F => Ak F rfl rfl (Am rfl hi) Ab rfl rfl fun _ F => Ak F rfl rfl (Am rfl hi) Ab rfl rfl fun _ F => Ak F rfl rfl (Am rfl hi) Ab rfl rfl fun _ F => Ak F rfl rfl (Am rfl hi) Ab rfl rfl fun _ F => Ak F rfl rfl (Am rfl hi) Ab rfl rfl fun _ F => Ai F (Aa (Ay (ev_b rfl hi) rfl) <| Aa (Al rfl) <| Ae) fun _ F => Ah <| Ad ?_
    obtain rfl := An H
    refine Ax ?_
    refine Au (rs := [.tmp 4]) (vs := [.bool false]) F (by rfl) ⟨_, _, rfl, At rfl, rfl⟩ ⟨_, rfl, ⟨rfl, s1⟩⟩
   replace H := Bi he H
   refine Ak F rfl rfl (Am rfl he) Ab rfl rfl fun _ F => Ak F rfl rfl (Am rfl he) Ab rfl rfl fun _ F => Ak F rfl rfl (Am rfl he) Ab rfl rfl fun _ F => Ak F rfl rfl (Am rfl he) Ab rfl rfl fun _ F => Ak F rfl rfl (Am rfl he) Ab rfl rfl fun _ F => Ak F rfl rfl (Am rfl he) Ab rfl rfl fun _ F => Ai F (Aa (Ay (ev_b rfl he) rfl) <| Aa (Ac rfl) <| Ae) fun _ F => Ak F rfl rfl rfl Ab rfl rfl fun _ F => Ak F rfl rfl rfl Ab rfl rfl fun _ F => Ak F rfl rfl rfl Ab rfl rfl fun _ F => Ak F rfl rfl rfl Ab rfl rfl fun _ F => Ak F rfl rfl rfl Ab rfl rfl fun _ F => Ak F rfl rfl rfl Ab rfl rfl fun _ F => Ai F (Aa (Ay rfl rfl) <| Aa (Al rfl) <| Ae) fun _ F => Ah <| Ad ?_
   obtain rfl := An H
   refine Ax ?_
   refine Au (rs := [.tmp 4]) (vs := [.bool false]) F (by rfl) ⟨_, _, rfl, At rfl, rfl⟩ ⟨_, rfl, ⟨rfl, s1⟩⟩
  replace H := Bi ha H
  refine Ak F rfl rfl (Am rfl ha) Ab rfl rfl fun _ F => Ak F rfl rfl (Am rfl ha) Ab rfl rfl fun _ F => Ak F rfl rfl (Am rfl ha) Ab rfl rfl fun _ F => Ak F rfl rfl (Am rfl ha) Ab rfl rfl fun _ F => Ak F rfl rfl (Am rfl ha) Ab rfl rfl fun _ F => Ak F rfl rfl (Am rfl ha) Ab rfl rfl fun _ F => Ai F (Aa (Ay (ev_b rfl ha) rfl) <| Aa (Ac rfl) <| Ae) fun _ F => Ak F rfl rfl rfl Ab rfl rfl fun _ F => Ak F rfl rfl rfl Ab rfl rfl fun _ F => Ak F rfl rfl rfl Ab rfl rfl fun _ F => Ak F rfl rfl rfl Ab rfl rfl fun _ F => Ak F rfl rfl rfl Ab rfl rfl fun _ F => Ak F rfl rfl rfl Ab rfl rfl fun _ F => Ai F (Aa (Ay rfl rfl) <| Aa (Ac rfl) <| Ae) fun _ F => Ak F rfl rfl rfl Ab rfl rfl fun _ F => Ak F rfl rfl rfl Ab rfl rfl fun _ F => Ak F rfl rfl rfl Ab rfl rfl fun _ F => ?_
  refine Ak F rfl rfl rfl Ab rfl rfl fun _ F => Ak F rfl rfl rfl Ab rfl rfl fun _ F => Ak F rfl rfl rfl Ab rfl rfl fun _ F => Ai F (Aa (Ay rfl rfl) <| Aa (Al rfl) <| Ae) fun _ F => Ah <| Ad ?_
  obtain rfl := An H
  refine Ax ?_
  refine Au (rs := [.tmp 4]) (vs := [.bool false]) F (by rfl) ⟨_, _, rfl, At rfl, rfl⟩ ⟨_, rfl, ⟨rfl, s1⟩⟩
 replace H := Bi h6 H
 refine Ak F rfl rfl (Am rfl h6) Ab rfl rfl fun _ F => Ak F rfl rfl (Am rfl h6) Ab rfl rfl fun _ F => Ak F rfl rfl (Am rfl h6) Ab rfl rfl fun _ F => Ak F rfl rfl (Am rfl h6) Ab rfl rfl fun _ F => Ak F rfl rfl (Am rfl h6) Ab rfl rfl fun _ F => Ai F (Aa (Ay (ev_b rfl h6) rfl) <| Aa (Ac rfl) <| Ae) fun _ F => Ak F rfl rfl rfl Ab rfl rfl fun _ F => Ak F rfl rfl rfl Ab rfl rfl fun _ F => Ak F rfl rfl rfl Ab rfl rfl fun _ F => Ak F rfl rfl rfl Ab rfl rfl fun _ F => Ak F rfl rfl rfl Ab rfl rfl fun _ F => Ak F rfl rfl rfl Ab rfl rfl fun _ F => Ai F (Aa (Ay rfl rfl) <| Aa (Ac rfl) <| Ae) fun _ F => Ak F rfl rfl rfl Ab rfl rfl fun _ F => Ak F rfl rfl rfl Ab rfl rfl fun _ F => Ak F rfl rfl rfl Ab rfl rfl fun _ F => Ak F rfl rfl rfl Ab rfl rfl fun _ F => ?_
 refine Ak F rfl rfl rfl Ab rfl rfl fun _ F => Ak F rfl rfl rfl Ab rfl rfl fun _ F => Ai F (Aa (Ay rfl rfl) <| Aa (Ac rfl) <| Ae) fun _ F => Ak F rfl rfl rfl Ab rfl rfl fun _ F => Ak F rfl rfl rfl Ab rfl rfl fun _ F => Ak F rfl rfl rfl Ab rfl rfl fun _ F => Ak F rfl rfl rfl Ab rfl rfl fun _ F => Ak F rfl rfl rfl Ab rfl rfl fun _ F => Ak F rfl rfl rfl Ab rfl rfl fun _ F => Ai F (Aa (Ay rfl rfl) <| Aa (Al rfl) <| Ae) fun _ F => Ah <| Ad ?_
 obtain rfl := An H
 refine Ax ?_
 refine Au (rs := [.tmp 4]) (vs := [.bool false]) F (by rfl) ⟨_, _, rfl, At rfl, rfl⟩ ⟨_, rfl, ⟨rfl, s1⟩⟩
-- slices.Clone[[]byte,byte]
theorem slices_Clone_byte_byte_c {w : World} {v0 : Value} {a0 : List UInt8} {r : (List UInt8)} (hr0 : Rd Ty.u8 w [] v0 a0) (H : slices_Clone_byte_byte a0 = some r) :
    Calls Try.prog 31 #[v0] w (Ret fun u_ w_ => ∃ u0 : Value, u_ = u0 ∧ SL w [] w_ [Sl Ty.u8 u0 r]) := by
 have s0 : SL w [] w [] := SL.init0 w
 refine Bd Try.func31 rfl Try.ntmps31 (Ap rfl) (args := [v0]) fun q0 F0 => ?_
 unfold slices_Clone_byte_byte at H
 refine Af <| Aj <| Ai F0 (Aa (Al rfl) <| Ae) fun q3 F4 => Ah <| Ad <| Af <| Af <| Aj ?_
 obtain ⟨A0, c0, h0⟩ := Ba (rdL hr0 s0)
 refine Ai F4 (Aa (Ac rfl) <| Aa (ex_sl_eqf rfl h0 rfl Try.underlying22) <| Ae) fun _ F => Ah <| Ad <| Be F rfl (fun h1 => ?_) (fun h1 => ?_)
 ·have h2 := nil_of (rdL hr0 s0) h0 (by simpa using h1)
  replace H := nil_conv (B := some ([] : List UInt8)) H (by simp [h2, app])
  refine Af <| Aj <| Ai F (Aa (Al rfl) <| Ae) fun _ F => Ah <| Ad ?_
  obtain rfl := An H
  refine Ax <| As ?_
  refine Au (rs := [.tmp 2]) (vs := [.slice none 0 0]) F (by rfl) ⟨_, _, rfl, At rfl, rfl⟩ ⟨_, rfl, ⟨(.slice none 0 0), rfl, (SL.nilSl (T := Ty.u8) s0)⟩⟩
 refine Av <| Ad <| Af <| Aj ?_
 refine st_bslice (parts := []) Flat.u8 ([] : List UInt8) F s0 Fx.sl22 rfl (by decide) rfl rfl rfl (by simp [Value.cells]) rfl rfl rfl fun v1 w0 _ F s1 => ?_
 obtain ⟨x0, h3, H⟩ := Ao H
 refine Ai F (Aa (Ac rfl) <| Ae) fun _ F => ?_
 have s2 := s1
 obtain ⟨_, hr_⟩ := (rdL hr0 s2)
 refine Bo Flat.u8 F s2 Fx.sl22 rfl rfl rfl rfl hr_ rfl rfl h3 rfl fun v2 w1 _ F s3 => Ai F (Aa (Al rfl) <| Ae) fun _ F => Ah <| Ad ?_
 obtain rfl := An H
 refine Ax ?_
 refine Au (rs := [.tmp 2]) (vs := [v2]) F (by rfl) ⟨_, _, rfl, At rfl, rfl⟩ ⟨_, rfl, ⟨v2, rfl, s3⟩⟩
-- proviso/provisoplain.Roomy
theorem provisoplain_Roomy_c {w : World} {v0 : Value} {a0 : List UInt8} {r : (List UInt8) × (List UInt8)} (hr0 : Rd Ty.u8 w [] v0 a0) (H : provisoplain_Roomy a0 = some r) :
    Calls Try.prog 9 #[v0] w (Ret fun u_ w_ => ∃ u0 u1 : Value, u_ = .tuple ⟨[u0, u1]⟩ ∧ View Ty.u8 u1 r.2 u0 r.1 ∧ SL w [] w_ [Sl Ty.u8 u1 r.2]) := by
 have s0 : SL w [] w [] := SL.init0 w
 refine Bd Try.func9 rfl Try.ntmps9 (Ap rfl) (args := [v0]) fun q0 F0 => ?_
 unfold provisoplain_Roomy at H
 refine Af <| Aj <| Ai F0 (Aa (Al rfl) <| Aa (Al rfl) <| Ae) fun q3 F4 => Ah <| Ad <| Af <| Aj ?_
 obtain ⟨x0, h0, H⟩ := Ao H
 refine Ai F4 (Aa (Ac rfl) <| Ae) fun _ F => Bg (args := [.tmp 5]) F Fx.fn31 rfl (slices_Clone_byte_byte_c (a0 := a0)   (hr0.pass0 s0) h0) rfl fun v1 w0 _ h1 F => ?_
 obtain ⟨_, rfl, h2⟩ := h1
 have s1 := s0.add h2
 refine st_bslice (parts := [(0, .const (.int .u8 165)), (1, .const (.int .u8 90)), (2, .const (.int .u8 195)), (3, .const (.int .u8 60))]) Flat.u8 ([(165 : UInt8), (90 : UInt8), (195 : UInt8), (60 : UInt8)] : List UInt8) F s1 Fx.sl22 rfl (by decide) rfl rfl rfl (by simp [Value.cells]) rfl rfl rfl fun v2 w1 _ F s2 => ?_
 obtain ⟨x1, h3, H⟩ := Ao H
 have s3 := s2.f1
 obtain ⟨_, hr_⟩ := (s3.own_rd (.tail _ <| .head _))
 refine Bo Flat.u8 F s3 Fx.sl22 rfl rfl rfl rfl hr_ rfl rfl h3 rfl fun v3 w2 _ F s4 => ?_
 have s59' := s4.f1.drop
 refine Ai F (Aa (Al rfl) <| Ae) fun _ F => Ah <| Ad <| Af <| Aj ?_
 obtain ⟨x2, h4, H⟩ := Ao H
 obtain ⟨v4, h5, h6⟩ := cut_view (s59'.own_rd (.head _)) Fx.sl22 rfl h4 none (some (a0.length : Int)) (.inr ⟨rfl, rfl⟩) (.inl rfl)
 refine Ai F (Aa (Ac rfl) <| Aa (Ac rfl) <| Aa (Az rfl Try.underlying22 (Ba (rdL hr0 s59'))) <| Aa (h5 _ _ _ _ _ .i64 .i64 _ _ _ _ _ rfl trivial rfl) <| Aa (Ac rfl) <| Aa (Al rfl) <| Aa (Al rfl) <| Ae) fun _ F => Ah <| Ad ?_
 obtain rfl := An H
 refine Ax ?_
 refine Au (rs := [.tmp 2, .tmp 3]) (vs := [v4, v3]) F (by rfl) ⟨_, _, rfl, At rfl, _, _, rfl, At rfl, rfl⟩ ⟨_, rfl, ⟨v4, v3, rfl, h6, s59'⟩⟩
-- proviso/provisolaw24.TalkUploads
/-- A request's cells, its row being a value. -/
def T_rq : Ty (Int × Int × V1) := Ty.pair (Ty.int .i64) (Ty.pair (Ty.int .i64) Ty.val)
theorem F_rq : Flat T_rq (fun x => [.int .i64 x.1, .int .i64 x.2.1, x.2.2.1]) := Flat.pair (Flat.int .i64) (Flat.pair (Flat.int .i64) Flat.val)
def rqs (L : List S_api_Request) (ds : List (V1 × List UInt8)) : List (Int × Int × V1) := List.zipWith (fun y d => (y.Command, y.Number, d.1)) L ds
theorem els_rq {w : World} : ∀ {F : List Nat} {L : List S_api_Request} {cs : List Value}, Els T_api_Request w F L cs → ∃ ds : List (V1 × List UInt8), ds.map Prod.snd = L.map (fun y => y.Data) ∧ cs = (rqs L ds).flatMap (fun x => [.int .i64 x.1, .int .i64 x.2.1, x.2.2.1]) ∧ Els (Ty.tv Ty.u8) w F ds (ds.map fun x => x.1.1)
  | _, [], _, h => ⟨[], rfl, h.1, rfl, h.2⟩
  | _, x :: L, _, ⟨c, d, F1, F2, e1, e2, h1, h2, hd⟩ => by
    obtain ⟨_, _, _, _, rfl, rfl, ⟨rfl, rfl⟩, ⟨_, _, _, _, rfl, rfl, ⟨rfl, rfl⟩, ⟨v, rfl, hv⟩, _⟩, _⟩ := h1
    obtain ⟨ds, h3, h4, h5⟩ := els_rq h2
    have h6 : v.oneCell' = true := (Ty.slice Ty.u8).rd_one (w := w) (x := x.Data) (cs := [v]) ⟨v, rfl, slOwn.rd hv⟩ v (by simp)
    exact ⟨(⟨v, h6⟩, x.Data) :: ds, by simp [h3], by rw [e1, h4]; rfl, [v], ds.map (fun x => x.1.1), _, F2, rfl, by rw [e2]; rfl, ⟨rfl, hv⟩, h5, hd⟩
theorem SL.rq_open {w0 w : World} {F0 : List Nat} {ps : List Ck} {v : Value} {L : List S_api_Request} (hs : SL w0 F0 w (Sl T_api_Request v L :: ps)) :
    ∃ ds : List (V1 × List UInt8), ds.map Prod.snd = L.map (fun y => y.Data) ∧ SL w0 F0 w (Sl T_rq v (rqs L ds) :: Rws Ty.u8 ds :: ps) := by
 obtain ⟨F, ⟨G1, G2, e, ⟨cs, F1, F2, rfl, hrow, hE, hd⟩, hst, hdis⟩, hF⟩ := hs.st
 obtain ⟨ds, h1, h2, h3⟩ := els_rq hE
 have hl : ds.length = L.length := by have := congrArg List.length h1; simpa using this
 refine ⟨ds, h1, hs.fm, F1 ++ (F2 ++ G2), ⟨F1, F2 ++ G2, rfl, (F_rq.slOwn).2 ?_, ⟨F2, G2, rfl, h3, hst, fun k hk => hdis k (by simp [hk])⟩, fun k hk hk' => ?_⟩, fun k hk => hF k (by rw [e]; simpa [List.append_assoc] using hk)⟩
 ·rw [← h2, show (rqs L ds).length = L.length from by simp [rqs, hl]]
  exact hrow
 rw [List.mem_append] at hk'
 rcases hk' with hk' | hk'
 ·exact hd k hk hk'
 exact hdis k (by simp [hk]) hk'
theorem rqs_at {L : List S_api_Request} {ds : List (V1 × List UInt8)} {i : Nat} {y : S_api_Request} {d : V1 × List UInt8} (h1 : L[i]? = some y) (h2 : ds[i]? = some d) : idx (rqs L ds) (i : Int) = some (y.Command, y.Number, d.1) := by
 unfold idx
 rw [if_pos (by omega), Int.toNat_natCast]
 unfold rqs
 rw [List.getElem?_zipWith, h1, h2]
theorem SL.rws0 {w0 w : World} {F0 : List Nat} {ps : List Ck} {l : List (V1 × List UInt8)} {i : Nat} {x : V1 × List UInt8} (hs : SL w0 F0 w ps) (hm : Rws Ty.u8 l ∈ ps) (hx : l[i]? = some x) : Rd Ty.u8 w [] x.1.1 x.2 := by
 obtain ⟨F, h1, _⟩ := hs.st
 obtain ⟨G, h3, h4⟩ := star_mem hm h1
 have h3 : Els (Ty.tv Ty.u8) w G l (l.map fun x => x.1.1) := h3
 obtain ⟨c, F1, h5, h6, h7⟩ := h3.at_ i x hx
 exact ⟨F1, h5.2.rd, fun k hk => ⟨h5.2.lt k hk, by simp⟩⟩
theorem zip_data {L : List S_api_Request} {ds : List (V1 × List UInt8)} (h : ds.map Prod.snd = L.map fun y => y.Data) {i : Nat} {y : S_api_Request} {d : V1 × List UInt8} (h1 : L[i]? = some y) (h2 : ds[i]? = some d) : d.2 = y.Data := by
 have := congrArg (fun l => l[i]?) h
 simp only [List.getElem?_map, h1, h2, Option.map_some, Option.some.injEq] at this
 exact this
theorem provisolaw24_TalkUploads_c {w : World} {v0 : Value} {a0 : List UInt8} {a1 : Int} {r : Bool} (hr0 : Rd Ty.u8 w [] v0 a0) (H : provisolaw24_TalkUploads a0 a1 = some r) :
    Calls Try.prog 3 #[v0, .int .i64 a1] w (Ret fun u_ w_ => u_ = .bool r ∧ SL w [] w_ []) := by
 have s : SL w [] w [] := SL.init0 w
 unfold provisolaw24_TalkUploads at H
 obtain ⟨x, hx, H⟩ := Ao H
 obtain ⟨l, hl, H⟩ := Ao H
 obtain ⟨wt, hwt, H⟩ := Ao H
 split at H
 case isFalse => cases H
 rename_i hC
 obtain ⟨c1, c2, c3, c4, c5⟩ := hC
 refine Bd Try.func3 rfl Try.ntmps3 (Ap rfl) (args := [v0, .int .i64 a1]) fun q0 F => Af <| Aj <| Ai F (Aa (Al rfl) <| Ae) fun _ F => Ah <| Ad <| Af <| Aj <| Ai F (Aa (Ac rfl) <| Ae) fun _ F => Bg (args := [.tmp 14]) F Fx.fn9 rfl (provisoplain_Roomy_c (a0 := a0) (hr0.pass0 s) hx) rfl fun u w1 _ hS F => ?_
 obtain ⟨u0, u1, rfl, hv, hq⟩ := hS
 have s := s.add hq
 refine Ai F (Aa (Ac rfl) <| Aa (ex_extract (v := u0) rfl rfl) <| Aa (ex_extract (v := u1) rfl rfl) <| Aa (Al rfl) <| Aa (Al rfl) <| Ae) fun _ F => Ah <| Ad <| Af <| Aj <| Ai F (Aa (Ac rfl) <| Aa (Ac rfl) <| Ae) fun _ F => Bg (args := [.tmp 19, .tmp 20]) F Fx.fn10 rfl (talk_Upload_c (a0 := x.1) (a1 := a1) (hv.rd (s.rd0 (.head _))) hl) rfl fun u w2 _ hS F => ?_
 obtain ⟨u2, rfl, hq⟩ := hS
 have s := s.add hq
 refine Ai F (Aa (Ac rfl) <| Aa (ex_extract (v := u2) rfl rfl) <| Aa (ex_extract (v := .int .i64 l.2) rfl rfl) <| Aa (Al rfl) <| Aa (Al rfl) <| Ae) fun _ F => Ah <| Ad <| Af <| Aj <| Ai F (Aa (Ac rfl) <| Aa (Ac rfl) <| Ae) fun _ F => Bg (args := [.tmp 25, .tmp 26]) F Fx.fn11 rfl (provisoref24_Upload_c (a0 := a0) (a1 := a1) (hr0.pass0 s) hwt) rfl fun u w3 _ hS F => ?_
 obtain ⟨u3, rfl, hq⟩ := hS
 have s := s.add hq
 refine Ai F (Aa (Ac rfl) <| Aa (ex_extract (v := u3) rfl rfl) <| Aa (ex_extract (v := .int .i64 wt.2) rfl rfl) <| Aa (Al rfl) <| Aa (Al rfl) <| Ae) fun _ F => Ah <| Ad ?_
 have hb1 : (l.2 != wt.2) = false := by rw [c1]; simp
 have hb2 : ((l.1.length : Int) != (wt.1.length : Int)) = false := by rw [c2]; simp
 refine Af <| Af <| Aj <| Ai F (Aa (Ac rfl) <| Aa (Ac rfl) <| Aa (ex_ne rfl rfl) <| Aa (Ac rfl) <| Ae) fun _ F => Ar F rfl rfl (Am rfl hb1) (Ac rfl) rfl rfl fun _ F => Ar F rfl rfl (Am rfl hb1) (Az rfl Try.underlying25 (Ba (s.own_rd (.tail _ <| .head _)))) rfl rfl fun _ F => Ar F rfl rfl (Am rfl hb1) (Ac rfl) rfl rfl fun _ F => Ar F rfl rfl (Am rfl hb1) (Az rfl Try.underlying25 (Ba (s.own_rd (.head _)))) rfl rfl fun _ F => Ar F rfl rfl (Am rfl hb1) (ex_ne rfl rfl) rfl rfl fun _ F => Ai F (Aa (Ay (ev_b rfl hb1) rfl) <| Ae) fun _ F => Ah <| Ad <| wp_if_f F (Am rfl hb2) <| Av <| Ad <| Af <| Aj <| st_alloc F s Fx.zero32 rfl rfl fun g w4 _ F s => Ah <| Ad ?_
 have hlw : (l.1.length : Int) = (l.1.length : Int) := rfl
 refine Af <| Bk (fun a w_ => ∃ b0 b1 : Value, Fr a 68 [(0, v0), (4, .bool false), (6, u1), (7, u2), (9, u3), (11, .pointer (some ⟨g, 0, none⟩))] ∧ SL w [] w_ [Blk g 32 [b0, b1], Sl (Ty.slice Ty.u8) b0 (l.1.map fun y => y.Data), Sl (Ty.slice (Ty.int .i64)) b1 [], Sl Ty.u8 u1 x.2]) ?_ ?_
 ·refine Af <| Aj <| Ai F (Aa (Ac rfl) <| Aa (Az rfl Try.underlying25 (Ba (s.own_rd (.tail _ <| .tail _ <| .head _)))) <| Aa (Ac rfl) <| Ae) fun _ F => Ah <| Ad <| Aq ?_
  obtain ⟨dw, hdw, s⟩ := SL.rq_open s.f1
  obtain ⟨dl, hdl, s⟩ := SL.rq_open s.f3
  have hdll : dl.length = l.1.length := by have := congrArg List.length hdl; simpa using this
  have hdwl : dw.length = wt.1.length := by have := congrArg List.length hdw; simpa using this
  have s : SL w [] _ [Blk g 32 [.slice none 0 0, .slice none 0 0], Rws Ty.u8 dl, Sl T_rq u2 (rqs l.1 dl), Sl T_rq u3 (rqs wt.1 dw), Rws Ty.u8 dw, Sl Ty.u8 u1 x.2] := s.f1.f4
  have s := SL.nilSl (T := Ty.slice Ty.u8) (SL.nilSl (T := Ty.slice (Ty.int .i64)) s)
  refine wp_cnt l.1.length (fun i a w_ => ∃ (b0 b1 : Value) (pre todo : List (V1 × List UInt8)), Fr a 68 [(0, v0), (4, .bool false), (6, u1), (7, u2), (9, u3), (11, .pointer (some ⟨g, 0, none⟩)), (41, .int .i64 (l.1.length : Int)), (42, .int .i64 (i : Int))] ∧ dl = pre ++ todo ∧ pre.length = i ∧ SL w [] w_ [Blk g 32 [b0, b1], Sl (Ty.slice Ty.u8) b0 ((l.1.take i).map fun y => y.Data), Sl (Ty.slice (Ty.int .i64)) b1 [], Rws Ty.u8 todo, Sl T_rq u2 (rqs l.1 dl), Sl T_rq u3 (rqs wt.1 dw), Rws Ty.u8 dw, Sl Ty.u8 u1 x.2]) ?_ ?_
  ·exact ⟨_, _, [], dl, F.sub ⟨rfl, rfl, rfl, rfl, rfl, rfl, rfl, rfl, trivial⟩, rfl, rfl, s.f2⟩
  rintro i a w_ hi ⟨b0, b1, pre, todo, F, e1, e2, s⟩
  refine Af <| Aj <| Ai F (Aa (Br rfl rfl) <| Ae) fun _ F => Ah <| Ad <| Af <| Be F rfl (fun hb => ?_) (fun hb => ?_)
  ·have hlt : i < l.1.length := by have := of_decide_eq_true hb; omega
   have hlt2 : i < wt.1.length := by omega
   obtain ⟨y, hy⟩ : ∃ y, l.1[i]? = some y := ⟨_, List.getElem?_eq_getElem hlt⟩
   obtain ⟨z, hz⟩ : ∃ z, wt.1[i]? = some z := ⟨_, List.getElem?_eq_getElem hlt2⟩
   obtain ⟨d, r, rfl⟩ : ∃ d r, todo = d :: r := by
     cases todo with
     | nil => rw [List.append_nil] at e1; subst e1; omega
     | cons d r => exact ⟨d, r, rfl⟩
   have hd : dl[i]? = some d := by rw [e1, ← e2]; simp
   obtain ⟨dz, hdz⟩ : ∃ dz, dw[i]? = some dz := ⟨_, List.getElem?_eq_getElem (by omega)⟩
   have eD := zip_data hdl hy hd
   have eZ := zip_data hdw hz hdz
   have hsame := c4 i y z hy hz
   refine Av <| Ad <| Af <| Aq <| Af <| Aj <| Ai F (Aa (Ac rfl) <| Aa (Al rfl) <| Ae) fun _ F => Ah <| Ad <| Af <| Af ?_
   obtain ⟨ad1, hi1, hc1⟩ := idxC (C := fun w_ => SL w [] w_ [Blk g 32 [b0, b1], Sl (Ty.slice Ty.u8) b0 ((l.1.take i).map fun y => y.Data), Sl (Ty.slice (Ty.int .i64)) b1 [], Rws Ty.u8 (d :: r), Sl T_rq u2 (rqs l.1 dl), Sl T_rq u3 (rqs wt.1 dw), Rws Ty.u8 dw, Sl Ty.u8 u1 x.2]) F_rq (fun _ hC => hC.own_rd (.tail _ <| .tail _ <| .tail _ <| .tail _ <| .head _)) s Fx.sl25 rfl (rqs_at hy hd)
   obtain ⟨ad2, hi2, hc2⟩ := idxC (C := fun w_ => SL w [] w_ [Blk g 32 [b0, b1], Sl (Ty.slice Ty.u8) b0 ((l.1.take i).map fun y => y.Data), Sl (Ty.slice (Ty.int .i64)) b1 [], Rws Ty.u8 (d :: r), Sl T_rq u2 (rqs l.1 dl), Sl T_rq u3 (rqs wt.1 dw), Rws Ty.u8 dw, Sl Ty.u8 u1 x.2]) F_rq (fun _ hC => hC.own_rd (.tail _ <| .tail _ <| .tail _ <| .tail _ <| .tail _ <| .head _)) s Fx.sl25 rfl (rqs_at hz hdz)
   refine wp_regq (fun w_ => SL w [] w_ [Blk g 32 [b0, b1], Sl (Ty.slice Ty.u8) b0 ((l.1.take i).map fun y => y.Data), Sl (Ty.slice (Ty.int .i64)) b1 [], Rws Ty.u8 (d :: r), Sl T_rq u2 (rqs l.1 dl), Sl T_rq u3 (rqs wt.1 dw), Rws Ty.u8 dw, Sl Ty.u8 u1 x.2]) Fx.mixed (by kernel_rfl) s.drew F (QR.op (fun _ hC => Ac rfl) <| QR.op (fun _ hC => Ac rfl) <| QR.op (fun _ hC => hi1 _ _ _ _ _ _ _ _ _ _ rfl rfl) <| QR.op (fun _ hC => ex_ldagg Fx.agg35 rfl (hc1 _ hC) rfl) <| QR.op (fun _ hC => Ac rfl) <| QR.op (fun _ hC => Ac rfl) <| QR.op (fun _ hC => hi2 _ _ _ _ _ _ _ _ _ _ rfl rfl) <| QR.op (fun _ hC => ex_ldagg Fx.agg35 rfl (hc2 _ hC) rfl) <| QR.call (args := [.tmp 48, .tmp 52]) Fx.fn12 rfl (fun _ hC => quiet_c (provisolaw24_sameRequest_c (a0 := y) (a1 := z) (by rw [← eD]; exact SL.rws0 hC (i := 0) (.tail _ <| .tail _ <| .tail _ <| .head _) rfl) (by rw [← eZ]; exact SL.rws0 hC (.tail _ <| .tail _ <| .tail _ <| .tail _ <| .tail _ <| .tail _ <| .head _) hdz) hsame) hC) <| QR.op (fun _ hC => ex_not rfl) <| QR.nil) fun w5 _ s F => ?_
   refine Ad <| wp_if_f F rfl <| Av <| Ad <| Aj ?_
   obtain ⟨ad3, hi3, hc3⟩ := own_idxf F_rq s (.tail _ <| .tail _ <| .tail _ <| .tail _ <| .head _) Fx.sl25 rfl (rqs_at hy hd)
   refine Ai F (Aa (Ac rfl) <| Aa (Ac rfl) <| Aa (hi3 _ _ _ _ _ _ _ _ _ _ rfl rfl) <| Aa (ex_fa Fx.fa35_2 rfl) <| Aa (Bc Fx.nag22 rfl (Cells.at_ hc3 (o := 2) rfl)) <| Ae) fun _ F => ?_
   have s := s.f3.rows_pop
   have s : SL w [] _ (([Blk g 32 [b0, b1], Sl (Ty.slice Ty.u8) b0 ((l.1.take i).map fun y => y.Data), Sl (Ty.slice (Ty.int .i64)) b1 [], Sl Ty.u8 d.1.1 d.2] : List Ck) ++ [Rws Ty.u8 r, Sl T_rq u2 (rqs l.1 dl), Sl T_rq u3 (rqs wt.1 dw), Rws Ty.u8 dw, Sl Ty.u8 u1 x.2]) := s.f4.f4.f4
   obtain ⟨G_, hst_, hF_, hG_, hcl_⟩ := SL.open_ s
   refine Bg (args := [.tmp 11, .tmp 59]) F Fx.fn13 rfl (provisoplain_Shelf_Bytes_c (a0 := ⟨(l.1.take i).map fun y => y.Data, []⟩) (a1 := d.2) (r := ⟨(l.1.take i).map (fun y => y.Data) ++ [d.2], []⟩) hst_ (by unfold provisoplain_Shelf_Bytes; rw [app_ok_ (by simp; omega), Option.bind_some])) rfl fun u w6 _ hS F => ?_
   obtain ⟨b2, b3, rfl, hq⟩ := hS
   have s := hcl_ _ _ hq
   refine Ah <| Bs <| Ad <| Aj <| Ai F (Aa (Bb rfl rfl) <| Aa (Ac rfl) <| Ae) fun _ F => Ah <| Ad ?_
   rw [show IntKind.i64.wrap ((i : Int) + 1) = ((i + 1 : Nat) : Int) from by rw [wrap_small (n := (i : Int) + 1) (by omega) (by omega)]; omega] at F
   have ht : (l.1.take (i + 1)).map (fun y => y.Data) = (l.1.take i).map (fun y => y.Data) ++ [d.2] := by rw [List.take_add_one, hy, eD]; simp
   refine ⟨hlt, b2, b3, pre ++ [d], r, F.sub ⟨rfl, rfl, rfl, rfl, rfl, rfl, rfl, rfl, trivial⟩, by rw [e1]; simp, by simp [e2], ?_⟩
   rw [ht]
   exact s
  have h0 : i = l.1.length := by have := of_decide_eq_false hb; omega
  refine Bf <| Aw <| Aw <| Bj <| Ad <| ⟨b0, b1, F.sub ⟨rfl, rfl, rfl, rfl, rfl, rfl, trivial⟩, ?_⟩
  rw [h0, List.take_length] at s
  exact s.f3.drop.f3.drop.f3.drop.f3.drop
 intro a w_ hJ
 obtain ⟨b0, b1, F, s⟩ := hJ
 refine Ad <| Af <| Aj ?_
 obtain ⟨G_, hst_, hF_, hG_, hcl_⟩ := SL.open_ (ps := [Blk g 32 [b0, b1], Sl (Ty.slice Ty.u8) b0 (l.1.map fun y => y.Data), Sl (Ty.slice (Ty.int .i64)) b1 []]) (rest := [Sl Ty.u8 u1 x.2]) s
 refine Bg (args := [.tmp 11]) F Fx.fn14 rfl (provisoplain_Shelf_Own_c (a0 := ⟨l.1.map fun y => y.Data, []⟩) hst_ c5) rfl fun u w6 _ hS F => ?_
 obtain ⟨rfl, hq⟩ := hS
 have s := hcl_ _ _ hq
 refine Ai F (Aa (Ac rfl) <| Ae) fun _ F => Ar F rfl rfl rfl (Ac rfl) rfl rfl fun _ F => Ar F rfl rfl rfl (Ac rfl) rfl rfl fun _ F => st_ungd F rfl rfl <| Bg (args := [.tmp 64, .tmp 65]) F Fx.fn15 rfl (provisoplain_Untouched_c (a0 := x.2) (a1 := a0) (s.rd0 (.head _)) (hr0.pass0 s) H) rfl fun u w7 _ hS F => ?_
 obtain ⟨rfl, hq⟩ := hS
 have s := s.add hq
 refine Ai F (Aa (Bm rfl rfl) <| Aa (Al rfl) <| Ae) fun _ F => Ah <| Ad <| Ax ?_
 refine Au (rs := [.tmp 4]) (vs := [.bool r]) F (by rfl) ⟨_, _, rfl, At rfl, rfl⟩ ⟨_, rfl, rfl, s.drop⟩
end Go.Proofs.Ytmeodoidfpcjlaa
