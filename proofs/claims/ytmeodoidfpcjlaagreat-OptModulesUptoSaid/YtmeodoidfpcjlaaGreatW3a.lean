/- Walks, merged. -/
import Derived.Test.YtmeodoidfpcjlaaGreatFx
import Derived.Test.YtmeodoidfpcjlaaGreatDf
import Derived.Test.YtmeodoidfpcjlaaGreatHs
import Derived.Test.YtmeodoidfpcjlaaGreatPvo
set_option linter.unusedVariables false
set_option linter.unusedSimpArgs false
namespace Go.Proofs.YtmeodoidfpcjlaaGreat
open Go Go.RowKit Go.Pv
open Go.Pv.PR renaming op → Aa, nil → Ad
open Bool renaming noConfusion → Ab
open Go.Pv renaming then_n → Ac, one_cons → Ae, ex_move → Af, st_end → Ai, st_pr → Aj, wp_reg → Ak, ex_asg → Al, look_b → Am, some_ok → An, st_gskip → Ao, bind_ok → Ap, st_gop → Aq, kq_end → Ar, st_storea → As, ex_extract → Au, ret_gen → Av, ex_fab → Ax, ex_ld → Az, one_nil → Ba, ite_t → Bb, ite_f → Bc, hd_one → Be, ex_pick_t → Bf, then_r → Bg, ex_pick_f → Bi, ex_ldagg → Bj, st_call → Bk, bool_split → Bl, wp_if → Bm, call_enter → Bn, st_alloc → Bo, then_x → Bp, ex_add → Bq, wpOp_of → Br, hd_cons → Bs, st_op → Bt, formL → Bu, hd_take → Bv, ex_eq → Bw, wp_cutn → Bx, ev_b → By, blk_n → Bz, blk_hit → Cb, ex_len → Cc, form_one → Cd, hd_done → Ce, st_gskip' → Cf, own_idx → Ch, st_append_rd → Ci, hd_many → Cl, wp_if_f → Cm, ex_build → Cn, hd_nil → Co, st_store → Cq, ex_lt → Cr, st_bslice → Cs, form_cells → Ct, wp_lp → Cu, rdL → Cv, ex_fa → Cw, st_setel → Cx, wp_if_t → Cz, ex_not → Da, st_box → Db, st_append_own → Dc, blk_miss → Dd, ex_ne → De, idxL → Dg, st_bslice1 → Dh, st_setfld → Di, wp_regh → Dj
open Nat renaming le_of_ble_eq_true → Ag
open Go renaming wp_seq → Ah, wp_skip → Aw, wp_ret → Bd, wp_block → Bh, wp_exit → Ca
open Go.Pv.RV renaming tmp → Ay, blk → Cj
open Go.Pv.QR renaming op → Cg, gskip → Cp, gop → Cy
-- proviso/provisolaw19.size
theorem provisolaw19_size_c {w : World} {v0_1 v0_2 v0_3 : Value} {a0 : S_api_Module} {r : Int} (hr0_1 : Rd T_api_Class w [] v0_1 a0.Classes) (hr0_2 : Rd T_api_Func w [] v0_2 a0.Funcs) (hr0_3 : Rd (Ty.slice Ty.u8) w [] v0_3 a0.Certs) (H : provisolaw19_size a0 = some r) :
    Calls Tryz.prog 4 #[.agg ⟨[.string ⟨⟨a0.Name⟩⟩, v0_1, v0_2, v0_3]⟩] w (Ret fun u_ w_ => u_ = .int .i64 r ∧ SL w [] w_ []) := by
 have s0 : SL w [] w [] := SL.init0 w
 refine Bn Tryz.func4 rfl Tryz.ntmps4 (Ag rfl) (args := [.agg ⟨[.string ⟨⟨a0.Name⟩⟩, v0_1, v0_2, v0_3]⟩]) fun q0 F0 => ?_
 unfold provisolaw19_size at H
 refine Ah <| Ak <| Db F0 s0 rfl rfl rfl fun g9 w0 _ F s1 => Aj F (Aa (Al rfl) <| Ad) fun _ F => Ai <| Ac <| Ah <| Ak <| Aj F (Aa (Al rfl) <| Ad) fun _ F => Ai <| Ac <| Ah <| Ah <| Ak <| Aj F (Aa (Ax Fx.fa26_2 rfl rfl) <| Aa (Az Fx.nag23 rfl (s1.blk_cell (.head _) rfl)) <| Aa (Cc rfl Tryz.underlying23 (Bu (Cv hr0_2 s1))) <| Aa (Af rfl) <| Ad) fun _ F => Ai <| Ac ?_
 obtain ⟨o0, H0, R0⟩ := Ap H
 clear H
 refine Bx (fun a w_ => Fr a 20 [(3, .int .i64 o0)] ∧ SL w [] w_ []) ?_ ?_
 ·have H := H0
  refine Bh <| Cu (provisolaw19_size_b0 a0) (fun s2 a w_ => Fr a 20 [(3, .int .i64 s2.1), (7, v0_2), (8, .int .i64 (a0.Funcs.length : Int)), (9, .int .i64 s2.2)] ∧ SL w [] w_ []) H ?_ ?_
  ·exact ⟨F.sub ⟨rfl, rfl, rfl, rfl, trivial⟩, s1.drop⟩
  intro s2 _ w1 h0 o1 H hr
  obtain ⟨F, s3⟩ := h0
  replace H : provisolaw19_size_b0 a0 s2 = some o1 := H
  unfold provisolaw19_size_b0 at H
  refine Ah <| Ak <| Aj F (Aa (Cr rfl rfl) <| Ad) fun _ F => Ai <| Ac <| Ah <| Bm F rfl (fun h1 => ?_) (fun h1 => ?_)
  ·replace H := Bb h1 H
   refine Aw <| Ac <| Ah <| Bh <| Ah <| Ak ?_
   obtain ⟨x0, h2, H⟩ := Ap H
   obtain ⟨a1, c0, G0, h3, h4, h5, h6⟩ := Rd.idx hr0_2 Fx.sl23 rfl h2
   obtain ⟨v0, v1, rfl, h7, h8⟩ := (R_api_Func h5 h6)
   replace h4 := h4 _ _ s3
   refine Aj F (Aa (h3 _ _ _ _ _ _ _ _ _ _ rfl rfl) <| Aa (Bj Fx.agg40 rfl h4 rfl) <| Ad) fun _ F => Bo F s3 Fx.zero40 rfl rfl fun g0 w2 _ F s4 => ?_
   have s5 := s4
   refine As F s5 rfl rfl Fx.sz40 (Ae rfl (Ae (Cd (Bu (Cv h7 s5))) (Ae rfl (Ae rfl (Ae (Cd (Bu (Cv h8 s5))) Ba))))) (Ag rfl) fun w3 _ F s6 => ?_
   replace s6 : SL w [] w3 [Blk g0 40 [.string ⟨⟨x0.Name⟩⟩, v0, .int .u8 (x0.Sig.Result.toNat : Int), .int .i64 x0.Locals, v1]] := s6
   refine Ai <| Ac <| Ak <| Aj F (Aa (Af rfl) <| Aa (Ax Fx.fa40_3 rfl rfl) <| Aa (Az Fx.nag38 rfl (s6.blk_cell (.head _) rfl)) <| Aa (Cc rfl Tryz.underlying38 (Bu (Cv h8 s6))) <| Aa (Bq rfl rfl) <| Aa (Al rfl) <| Ad) fun _ F => Ai <| Bz <| Ac <| Ak <| Aj F (Aa (Bq rfl rfl) <| Aa (Af rfl) <| Ad) fun _ F => Ai ?_
   obtain rfl := An H
   refine Ac ?_
   exact ⟨_, rfl, F.sub ⟨rfl, rfl, rfl, rfl, trivial⟩, s6.drop⟩
  replace H := Bc h1 H
  refine Ca <| Bp <| Bp <| Cb ?_
  obtain rfl := An H
  obtain rfl := hr _ rfl
  refine Ac ?_
  exact ⟨F.sub ⟨rfl, trivial⟩, s3⟩
 intro _ w4 hJ
 obtain ⟨F, s7⟩ := hJ
 have H := R0
 clear R0 H0
 refine Ac <| Ah <| Ak <| Aj F (Aa (Af rfl) <| Aa (Al rfl) <| Ad) fun _ F => Ai <| Ac ?_
 obtain rfl := An H
 refine Bd ?_
 refine Av (rs := [.tmp 2]) (vs := [.int .i64 o0]) F (by rfl) ⟨_, _, rfl, Ay rfl, rfl⟩ ⟨_, rfl, ⟨rfl, s7⟩⟩
-- slices.Clone[[]byte,byte]
theorem slices_Clone_byte_byte_c {w : World} {v0 : Value} {a0 : List UInt8} {r : (List UInt8)} (hr0 : Rd Ty.u8 w [] v0 a0) (H : slices_Clone_byte_byte a0 = some r) :
    Calls Tryz.prog 11 #[v0] w (Ret fun u_ w_ => ∃ u0 : Value, u_ = u0 ∧ SL w [] w_ [Sl Ty.u8 u0 r]) := by
 have s0 : SL w [] w [] := SL.init0 w
 refine Bn Tryz.func11 rfl Tryz.ntmps11 (Ag rfl) (args := [v0]) fun q0 F0 => ?_
 unfold slices_Clone_byte_byte at H
 refine Ah <| Ak <| Aj F0 (Aa (Al rfl) <| Ad) fun q3 F4 => Ai <| Ac <| Ah <| Ah <| Ak ?_
 obtain ⟨A0, c0, h0⟩ := Bu (Cv hr0 s0)
 refine Aj F4 (Aa (Af rfl) <| Aa (ex_sl_eqf rfl h0 rfl Tryz.underlying38) <| Ad) fun _ F => Ai <| Ac <| Bm F rfl (fun h1 => ?_) (fun h1 => ?_)
 ·have h2 := nil_of (Cv hr0 s0) h0 (by simpa using h1)
  replace H := nil_conv (B := some ([] : List UInt8)) H (by simp [h2, app])
  refine Ah <| Ak <| Aj F (Aa (Al rfl) <| Ad) fun _ F => Ai <| Ac ?_
  obtain rfl := An H
  refine Bd <| Bg ?_
  refine Av (rs := [.tmp 2]) (vs := [.slice none 0 0]) F (by rfl) ⟨_, _, rfl, Ay rfl, rfl⟩ ⟨_, rfl, ⟨(.slice none 0 0), rfl, (SL.nilSl (T := Ty.u8) s0)⟩⟩
 refine Aw <| Ac <| Ah <| Ak ?_
 refine Cs (parts := []) Flat.u8 ([] : List UInt8) F s0 Fx.sl38 rfl (by decide) rfl rfl rfl (by simp [Value.cells]) rfl rfl rfl fun v1 w0 _ F s1 => ?_
 obtain ⟨x0, h3, H⟩ := Ap H
 refine Aj F (Aa (Af rfl) <| Ad) fun _ F => ?_
 have s2 := s1
 obtain ⟨_, hr_⟩ := (Cv hr0 s2)
 refine Ci Flat.u8 F s2 Fx.sl38 rfl rfl rfl rfl hr_ rfl rfl h3 rfl fun v2 w1 _ F s3 => Aj F (Aa (Al rfl) <| Ad) fun _ F => Ai <| Ac ?_
 obtain rfl := An H
 refine Bd ?_
 refine Av (rs := [.tmp 2]) (vs := [v2]) F (by rfl) ⟨_, _, rfl, Ay rfl, rfl⟩ ⟨_, rfl, ⟨v2, rfl, s3⟩⟩
-- slices.Clone[[]proviso/api.Type,proviso/api.Type]
theorem slices_Clone_api_Type_api_Type_c {w : World} {v0 : Value} {a0 : List UInt8} {r : (List UInt8)} (hr0 : Rd Ty.u8 w [] v0 a0) (H : slices_Clone_api_Type_api_Type a0 = some r) :
    Calls Tryz.prog 27 #[v0] w (Ret fun u_ w_ => ∃ u0 : Value, u_ = u0 ∧ SL w [] w_ [Sl Ty.u8 u0 r]) := by
 have s0 : SL w [] w [] := SL.init0 w
 refine Bn Tryz.func27 rfl Tryz.ntmps27 (Ag rfl) (args := [v0]) fun q0 F0 => ?_
 unfold slices_Clone_api_Type_api_Type at H
 refine Ah <| Ak <| Aj F0 (Aa (Al rfl) <| Ad) fun q3 F4 => Ai <| Ac <| Ah <| Ah <| Ak ?_
 obtain ⟨A0, c0, h0⟩ := Bu (Cv hr0 s0)
 refine Aj F4 (Aa (Af rfl) <| Aa (ex_sl_eqf rfl h0 rfl Tryz.underlying34) <| Ad) fun _ F => Ai <| Ac <| Bm F rfl (fun h1 => ?_) (fun h1 => ?_)
 ·have h2 := nil_of (Cv hr0 s0) h0 (by simpa using h1)
  replace H := nil_conv (B := some ([] : List UInt8)) H (by simp [h2, app])
  refine Ah <| Ak <| Aj F (Aa (Al rfl) <| Ad) fun _ F => Ai <| Ac ?_
  obtain rfl := An H
  refine Bd <| Bg ?_
  refine Av (rs := [.tmp 2]) (vs := [.slice none 0 0]) F (by rfl) ⟨_, _, rfl, Ay rfl, rfl⟩ ⟨_, rfl, ⟨(.slice none 0 0), rfl, (SL.nilSl (T := Ty.u8) s0)⟩⟩
 refine Aw <| Ac <| Ah <| Ak ?_
 refine Cs (parts := []) Flat.u8 ([] : List UInt8) F s0 Fx.sl34 rfl (by decide) rfl rfl rfl (by simp [Value.cells]) rfl rfl rfl fun v1 w0 _ F s1 => ?_
 obtain ⟨x0, h3, H⟩ := Ap H
 refine Aj F (Aa (Af rfl) <| Ad) fun _ F => ?_
 have s2 := s1
 obtain ⟨_, hr_⟩ := (Cv hr0 s2)
 refine Ci Flat.u8 F s2 Fx.sl34 rfl rfl rfl rfl hr_ rfl rfl h3 rfl fun v2 w1 _ F s3 => Aj F (Aa (Al rfl) <| Ad) fun _ F => Ai <| Ac ?_
 obtain rfl := An H
 refine Bd ?_
 refine Av (rs := [.tmp 2]) (vs := [v2]) F (by rfl) ⟨_, _, rfl, Ay rfl, rfl⟩ ⟨_, rfl, ⟨v2, rfl, s3⟩⟩
-- proviso/provisoplain.Sig
theorem provisoplain_Sig_c {w : World} {v0_0 : Value} {a0 : S_api_Sig} {r : S_api_Sig} (hr0_0 : Rd Ty.u8 w [] v0_0 a0.Params) (H : provisoplain_Sig a0 = some r) :
    Calls Tryz.prog 18 #[.agg ⟨[v0_0, .int .u8 (a0.Result.toNat : Int)]⟩] w (Ret fun u_ w_ => ∃ u0 : Value, u_ = .agg ⟨[u0, .int .u8 (r.Result.toNat : Int)]⟩ ∧ SL w [] w_ [Sl Ty.u8 u0 r.Params]) := by
 have s0 : SL w [] w [] := SL.init0 w
 refine Bn Tryz.func18 rfl Tryz.ntmps18 (Ag rfl) (args := [.agg ⟨[v0_0, .int .u8 (a0.Result.toNat : Int)]⟩]) fun q0 F0 => ?_
 unfold provisoplain_Sig at H
 refine Ah <| Ak <| Db F0 s0 rfl rfl rfl fun g0 w0 _ F s1 => Bo F s1 Fx.zero37 rfl rfl fun g1 w1 _ F s2 => Ai <| Ac <| Ah <| Ak ?_
 obtain ⟨x0, h0, H⟩ := Ap H
 refine Aj F (Aa (Ax Fx.fa37_0 rfl rfl) <| Aa (Az Fx.nag34 rfl (s2.blk_cell (.tail _ <| .head _) rfl)) <| Ad) fun _ F => Bk (args := [.tmp 4]) F Fx.fn27 rfl (slices_Clone_api_Type_api_Type_c (a0 := a0.Params)   (hr0_0.pass0 s2) h0) rfl fun v0 w2 _ h1 F => ?_
 obtain ⟨_, rfl, h2⟩ := h1
 have s3 := s2.add h2
 refine Aj F (Aa (Ax Fx.fa37_0 rfl rfl) <| Ad) fun _ F => ?_
 have s4 := s3.f2
 refine Cq F s4 rfl rfl Fx.sz34 (Ct (Bu (s4.own_rd (.tail _ <| .head _)))) (Cd (Bu (s4.own_rd (.tail _ <| .head _)))) rfl fun w3 _ F s5 => ?_
 replace s5 : SL w [] w3 [Blk g0 37 [v0, .int .u8 (a0.Result.toNat : Int)], Sl Ty.u8 v0 x0, Blk g1 37 [.slice none 0 0, .int .u8 0]] := s5
 refine Ai <| Ac <| Ah <| Ak <| Aj F (Aa (Bj Fx.agg37 rfl (s5.blk_cells (.head _) (o := 0) (ds := [v0, .int .u8 (a0.Result.toNat : Int)]) (fun j u hu => by rw [Nat.zero_add]; exact hu)) rfl) <| Ad) fun _ F => ?_
 have s6 := s5.f2
 refine As F s6 rfl rfl Fx.sz37 (Ae (Cd (Bu (s6.own_rd (.tail _ <| .tail _ <| .head _)))) (Ae rfl Ba)) (Ag rfl) fun w4 _ F s7 => ?_
 replace s7 : SL w [] w4 [Blk g1 37 [v0, .int .u8 (a0.Result.toNat : Int)], Blk g0 37 [v0, .int .u8 (a0.Result.toNat : Int)], Sl Ty.u8 v0 x0] := s7
 refine Ai <| Ac ?_
 obtain rfl := An H
 refine Bd ?_
 refine Av (rs := [.cell 2 37]) (vs := [.agg ⟨[v0, .int .u8 (a0.Result.toNat : Int)]⟩]) F (by rfl) ⟨_, _, rfl, Cj s7 (.head _) rfl Fx.agg37 rfl, rfl⟩ ⟨_, rfl, ⟨v0, rfl, s7.drop.drop⟩⟩
-- proviso/provisoplain.Func
theorem provisoplain_Func_c {w : World} {v0_1 v0_4 : Value} {a0 : S_api_Func} {r : S_api_Func} (hr0_1 : Rd Ty.u8 w [] v0_1 a0.Sig.Params) (hr0_4 : Rd Ty.u8 w [] v0_4 a0.Code) (H : provisoplain_Func a0 = some r) :
    Calls Tryz.prog 10 #[.agg ⟨[.string ⟨⟨a0.Name⟩⟩, v0_1, .int .u8 (a0.Sig.Result.toNat : Int), .int .i64 a0.Locals, v0_4]⟩] w (Ret fun u_ w_ => ∃ u0 u1 : Value, u_ = .agg ⟨[.string ⟨⟨r.Name⟩⟩, u0, .int .u8 (r.Sig.Result.toNat : Int), .int .i64 r.Locals, u1]⟩ ∧ SL w [] w_ [Sl Ty.u8 u0 r.Sig.Params, Sl Ty.u8 u1 r.Code]) := by
 have s0 : SL w [] w [] := SL.init0 w
 refine Bn Tryz.func10 rfl Tryz.ntmps10 (Ag rfl) (args := [.agg ⟨[.string ⟨⟨a0.Name⟩⟩, v0_1, .int .u8 (a0.Sig.Result.toNat : Int), .int .i64 a0.Locals, v0_4]⟩]) fun q0 F0 => ?_
 unfold provisoplain_Func at H
 refine Ah <| Ak <| Db F0 s0 rfl rfl rfl fun g0 w0 _ F s1 => Bo F s1 Fx.zero40 rfl rfl fun g1 w1 _ F s2 => Ai <| Ac <| Ah <| Ak ?_
 obtain ⟨x0, h0, H⟩ := Ap H
 refine Aj F (Aa (Ax Fx.fa40_1 rfl rfl) <| Aa (Bj Fx.agg37 rfl (s2.blk_cells (.tail _ <| .head _) (o := 1) (ds := [v0_1, .int .u8 (a0.Sig.Result.toNat : Int)]) (subcells _ rfl)) rfl) <| Ad) fun _ F => Bk (args := [.tmp 4]) F Fx.fn18 rfl (provisoplain_Sig_c (a0 := (⟨a0.Sig.Params, a0.Sig.Result⟩ : S_api_Sig))   (hr0_1.pass0 s2) h0) rfl fun v0 w2 _ h1 F => ?_
 obtain ⟨v1, rfl, h2⟩ := h1
 have s3 := s2.add h2
 refine Aj F (Aa (Ax Fx.fa40_1 rfl rfl) <| Ad) fun _ F => ?_
 have s4 := s3.f2
 refine As F s4 rfl rfl Fx.sz37 (Ae (Cd (Bu (s4.own_rd (.tail _ <| .head _)))) (Ae rfl Ba)) (Ag rfl) fun w3 _ F s5 => ?_
 replace s5 : SL w [] w3 [Blk g0 40 [.string ⟨⟨a0.Name⟩⟩, v1, .int .u8 (x0.Result.toNat : Int), .int .i64 a0.Locals, v0_4], Sl Ty.u8 v1 x0.Params, Blk g1 40 [.string ⟨⟨[]⟩⟩, .slice none 0 0, .int .u8 0, .int .i64 0, .slice none 0 0]] := s5
 refine Ai <| Ac <| Ah <| Ak ?_
 obtain ⟨x1, h3, H⟩ := Ap H
 refine Aj F (Aa (Ax Fx.fa40_3 rfl rfl) <| Aa (Az Fx.nag38 rfl (s5.blk_cell (.head _) rfl)) <| Ad) fun _ F => Bk (args := [.tmp 8]) F Fx.fn11 rfl (slices_Clone_byte_byte_c (a0 := a0.Code)   (hr0_4.pass0 s5) h3) rfl fun v2 w4 _ h4 F => ?_
 obtain ⟨_, rfl, h5⟩ := h4
 have s6 := s5.add h5
 refine Aj F (Aa (Ax Fx.fa40_3 rfl rfl) <| Ad) fun _ F => ?_
 have s7 := s6.f1
 refine Cq F s7 rfl rfl Fx.sz38 (Ct (Bu (s7.own_rd (.tail _ <| .head _)))) (Cd (Bu (s7.own_rd (.tail _ <| .head _)))) rfl fun w5 _ F s8 => ?_
 replace s8 : SL w [] w5 [Blk g0 40 [.string ⟨⟨a0.Name⟩⟩, v1, .int .u8 (x0.Result.toNat : Int), .int .i64 a0.Locals, v2], Sl Ty.u8 v2 x1, Sl Ty.u8 v1 x0.Params, Blk g1 40 [.string ⟨⟨[]⟩⟩, .slice none 0 0, .int .u8 0, .int .i64 0, .slice none 0 0]] := s8
 refine Ai <| Ac <| Ah <| Ak <| Aj F (Aa (Bj Fx.agg40 rfl (s8.blk_cells (.head _) (o := 0) (ds := [.string ⟨⟨a0.Name⟩⟩, v1, .int .u8 (x0.Result.toNat : Int), .int .i64 a0.Locals, v2]) (fun j u hu => by rw [Nat.zero_add]; exact hu)) rfl) <| Ad) fun _ F => ?_
 have s9 := s8.f3
 refine As F s9 rfl rfl Fx.sz40 (Ae rfl (Ae (Cd (Bu (s9.own_rd (.tail _ <| .tail _ <| .tail _ <| .head _)))) (Ae rfl (Ae rfl (Ae (Cd (Bu (s9.own_rd (.tail _ <| .tail _ <| .head _)))) Ba))))) (Ag rfl) fun w6 _ F sa => ?_
 replace sa : SL w [] w6 [Blk g1 40 [.string ⟨⟨a0.Name⟩⟩, v1, .int .u8 (x0.Result.toNat : Int), .int .i64 a0.Locals, v2], Blk g0 40 [.string ⟨⟨a0.Name⟩⟩, v1, .int .u8 (x0.Result.toNat : Int), .int .i64 a0.Locals, v2], Sl Ty.u8 v2 x1, Sl Ty.u8 v1 x0.Params] := sa
 refine Ai <| Ac ?_
 obtain rfl := An H
 refine Bd ?_
 refine Av (rs := [.cell 2 40]) (vs := [.agg ⟨[.string ⟨⟨a0.Name⟩⟩, v1, .int .u8 (x0.Result.toNat : Int), .int .i64 a0.Locals, v2]⟩]) F (by rfl) ⟨_, _, rfl, Cj sa (.head _) rfl Fx.agg40 rfl, rfl⟩ ⟨_, rfl, ⟨v1, v2, rfl, sa.drop.drop.f1⟩⟩
-- slices.Clone[[]proviso/api.Field,proviso/api.Field]
theorem slices_Clone_api_Field_api_Field_c {w : World} {v0 : Value} {a0 : List S_api_Field} {r : (List S_api_Field)} (hr0 : Rd T_api_Field w [] v0 a0) (H : slices_Clone_api_Field_api_Field a0 = some r) :
    Calls Tryz.prog 17 #[v0] w (Ret fun u_ w_ => ∃ u0 : Value, u_ = u0 ∧ SL w [] w_ [Sl T_api_Field u0 r]) := by
 have s0 : SL w [] w [] := SL.init0 w
 refine Bn Tryz.func17 rfl Tryz.ntmps17 (Ag rfl) (args := [v0]) fun q0 F0 => ?_
 unfold slices_Clone_api_Field_api_Field at H
 refine Ah <| Ak <| Aj F0 (Aa (Al rfl) <| Ad) fun q3 F4 => Ai <| Ac <| Ah <| Ah <| Ak ?_
 obtain ⟨A0, c0, h0⟩ := Bu (Cv hr0 s0)
 refine Aj F4 (Aa (Af rfl) <| Aa (ex_sl_eqf rfl h0 rfl Tryz.underlying44) <| Ad) fun _ F => Ai <| Ac <| Bm F rfl (fun h1 => ?_) (fun h1 => ?_)
 ·have h2 := nil_of (Cv hr0 s0) h0 (by simpa using h1)
  replace H := nil_conv (B := some ([] : List S_api_Field)) H (by simp [h2, app])
  refine Ah <| Ak <| Aj F (Aa (Al rfl) <| Ad) fun _ F => Ai <| Ac ?_
  obtain rfl := An H
  refine Bd <| Bg ?_
  refine Av (rs := [.tmp 2]) (vs := [.slice none 0 0]) F (by rfl) ⟨_, _, rfl, Ay rfl, rfl⟩ ⟨_, rfl, ⟨(.slice none 0 0), rfl, (SL.nilSl (T := T_api_Field) s0)⟩⟩
 refine Aw <| Ac <| Ah <| Ak ?_
 refine Cs (parts := []) F_api_Field ([] : List S_api_Field) F s0 Fx.sl44 rfl (by decide) rfl rfl rfl (by simp [Value.cells]) rfl rfl rfl fun v1 w0 _ F s1 => ?_
 obtain ⟨x0, h3, H⟩ := Ap H
 refine Aj F (Aa (Af rfl) <| Ad) fun _ F => ?_
 have s2 := s1
 obtain ⟨_, hr_⟩ := (Cv hr0 s2)
 refine Ci F_api_Field F s2 Fx.sl44 rfl rfl rfl rfl hr_ rfl rfl h3 rfl fun v2 w1 _ F s3 => Aj F (Aa (Al rfl) <| Ad) fun _ F => Ai <| Ac ?_
 obtain rfl := An H
 refine Bd ?_
 refine Av (rs := [.tmp 2]) (vs := [v2]) F (by rfl) ⟨_, _, rfl, Ay rfl, rfl⟩ ⟨_, rfl, ⟨v2, rfl, s3⟩⟩
-- proviso/provisoplain.Classes
theorem provisoplain_Classes_c {w : World} {v0 : Value} {a0 : List S_api_Class} {r : (List S_api_Class)} (hr0 : Rd T_api_Class w [] v0 a0) (H : provisoplain_Classes a0 = some r) :
    Calls Tryz.prog 9 #[v0] w (Ret fun u_ w_ => ∃ u0 : Value, u_ = u0 ∧ SL w [] w_ [Sl T_api_Class u0 r]) := by
 have s0 : SL w [] w [] := SL.init0 w
 refine Bn Tryz.func9 rfl Tryz.ntmps9 (Ag rfl) (args := [v0]) fun q0 F0 => ?_
 unfold provisoplain_Classes at H
 refine Ah <| Ak <| Aj F0 (Aa (Al rfl) <| Ad) fun q3 F4 => Ai <| Ac <| Ah <| Ak <| Aj F4 (Aa (Al rfl) <| Ad) fun q7 F8 => Ai <| Ac <| Ah <| Ah <| Ak <| Aj F8 (Aa (Af rfl) <| Aa (Cc rfl Tryz.underlying22 (Bu (Cv hr0 s0))) <| Aa (Af rfl) <| Ad) fun _ F => Ai <| Ac ?_
 obtain ⟨o0, H0, R0⟩ := Ap H
 clear H
 refine Bx (fun a w_ => ∃ v1 : Value, Fr a 22 [(3, v1)] ∧ SL w [] w_ [Sl T_api_Class v1 o0]) ?_ ?_
 ·have H := H0
  refine Bh <| Cu (provisoplain_Classes_b0 a0) (fun s1 a w_ => ∃ v2 : Value, Fr a 22 [(3, v2), (6, v0), (7, .int .i64 (a0.length : Int)), (8, .int .i64 s1.2)] ∧ SL w [] w_ [Sl T_api_Class v2 s1.1]) H ?_ ?_
  ·exact ⟨(.slice none 0 0), F.sub ⟨rfl, rfl, rfl, rfl, trivial⟩, (SL.nilSl (T := T_api_Class) s0)⟩
  intro s1 _ w0 h0 o1 H hr
  obtain ⟨v2, F, s2⟩ := h0
  replace H : provisoplain_Classes_b0 a0 s1 = some o1 := H
  unfold provisoplain_Classes_b0 at H
  refine Ah <| Ak <| Aj F (Aa (Cr rfl rfl) <| Ad) fun _ F => Ai <| Ac <| Ah <| Bm F rfl (fun h1 => ?_) (fun h1 => ?_)
  ·replace H := Bb h1 H
   refine Aw <| Ac <| Ah <| Bh <| Ah <| Ak ?_
   obtain ⟨x0, h2, H⟩ := Ap H
   obtain ⟨a1, c0, G0, h3, h4, h5, h6⟩ := Rd.idx hr0 Fx.sl22 rfl h2
   obtain ⟨v3, rfl, h7⟩ := (R_api_Class h5 h6)
   replace h4 := h4 _ _ s2
   refine Aj F (Aa (h3 _ _ _ _ _ _ _ _ _ _ rfl rfl) <| Aa (Bj Fx.agg46 rfl h4 rfl) <| Ad) fun _ F => Bo F s2 Fx.zero46 rfl rfl fun g0 w1 _ F s3 => ?_
   have s4 := s3
   refine As F s4 rfl rfl Fx.sz46 (Ae rfl (Ae rfl (Ae (Cd (Bu (Cv h7 s4))) Ba))) (Ag rfl) fun w2 _ F s5 => ?_
   replace s5 : SL w [] w2 [Blk g0 46 [.string ⟨⟨x0.Name⟩⟩, .int .i64 x0.Parent, v3], Sl T_api_Class v2 s1.1] := s5
   refine Ai <| Ac <| Ah <| Ak ?_
   obtain ⟨x1, h8, H⟩ := Ap H
   refine Aj F (Aa (Ax Fx.fa46_2 rfl rfl) <| Aa (Az Fx.nag44 rfl (s5.blk_cell (.head _) rfl)) <| Ad) fun _ F => Bk (args := [.tmp 13]) F Fx.fn17 rfl (slices_Clone_api_Field_api_Field_c (a0 := x0.Fields)   (h7.pass0 s5) h8) rfl fun v4 w3 _ h9 F => ?_
   obtain ⟨_, rfl, ha⟩ := h9
   have s6 := s5.add ha
   refine Aj F (Aa (Ax Fx.fa46_2 rfl rfl) <| Ad) fun _ F => ?_
   have s7 := s6.f1
   refine Cq F s7 rfl rfl Fx.sz44 (Ct (Bu (s7.own_rd (.tail _ <| .head _)))) (Cd (Bu (s7.own_rd (.tail _ <| .head _)))) rfl fun w4 _ F s8 => ?_
   replace s8 : SL w [] w4 [Blk g0 46 [.string ⟨⟨x0.Name⟩⟩, .int .i64 x0.Parent, v4], Sl T_api_Field v4 x1, Sl T_api_Class v2 s1.1] := s8
   refine Ai <| Ac <| Ak <| Aj F (Aa (Af rfl) <| Aa (Bj Fx.agg46 rfl (s8.blk_cells (.head _) (o := 0) (ds := [.string ⟨⟨x0.Name⟩⟩, .int .i64 x0.Parent, v4]) (fun j u hu => by rw [Nat.zero_add]; exact hu)) rfl) <| Ad) fun _ F => ?_
   have s9 : SL w [] _ (Dt T_api_Class (⟨x0.Name, x0.Parent, x1⟩ : S_api_Class) [.string ⟨⟨x0.Name⟩⟩, .int .i64 x0.Parent, v4] :: [Blk g0 46 [.string ⟨⟨x0.Name⟩⟩, .int .i64 x0.Parent, v4], Sl T_api_Class v2 s1.1]) := (SL.diso (f := t_api_Class) (x := (⟨x0.Name, x0.Parent, x1⟩ : S_api_Class)) (SL.dpair (SL.dflat (SL.dpair (SL.dflat (SL.dsl s8.f1) (Flat.int .i64) x0.Parent)) Flat.str x0.Name)))
   refine Dh F s9 Fx.sl22 rfl (by decide) rfl rfl rfl fun v5 w5 _ F sa => ?_
   obtain ⟨x2, hb, H⟩ := Ap H
   refine Dc F sa.f2 Fx.sl22 rfl rfl rfl rfl rfl rfl hb rfl fun v6 w6 _ F sb => Aj F (Aa (Al rfl) <| Ad) fun _ F => Ai <| Bz <| Ac <| Ak <| Aj F (Aa (Bq rfl rfl) <| Aa (Af rfl) <| Ad) fun _ F => Ai ?_
   obtain rfl := An H
   refine Ac ?_
   exact ⟨_, rfl, v6, F.sub ⟨rfl, rfl, rfl, rfl, trivial⟩, sb.f1.drop⟩
  replace H := Bc h1 H
  refine Ca <| Bp <| Bp <| Cb ?_
  obtain rfl := An H
  obtain rfl := hr _ rfl
  refine Ac ?_
  exact ⟨v2, F.sub ⟨rfl, trivial⟩, s2⟩
 intro _ w7 hJ
 obtain ⟨v1, F, sc⟩ := hJ
 have H := R0
 clear R0 H0
 refine Ac <| Ah <| Ak <| Aj F (Aa (Af rfl) <| Aa (Al rfl) <| Ad) fun _ F => Ai <| Ac ?_
 obtain rfl := An H
 refine Bd ?_
 refine Av (rs := [.tmp 2]) (vs := [v1]) F (by rfl) ⟨_, _, rfl, Ay rfl, rfl⟩ ⟨_, rfl, ⟨v1, rfl, sc⟩⟩
-- proviso/provisoplain.Module
theorem provisoplain_Module_c {w : World} {v0_1 v0_2 v0_3 : Value} {a0 : S_api_Module} {r : S_api_Module} (hr0_1 : Rd T_api_Class w [] v0_1 a0.Classes) (hr0_2 : Rd T_api_Func w [] v0_2 a0.Funcs) (hr0_3 : Rd (Ty.slice Ty.u8) w [] v0_3 a0.Certs) (H : provisoplain_Module a0 = some r) :
    Calls Tryz.prog 5 #[.agg ⟨[.string ⟨⟨a0.Name⟩⟩, v0_1, v0_2, v0_3]⟩] w (Ret fun u_ w_ => ∃ u0 u1 u2 : Value, u_ = .agg ⟨[.string ⟨⟨r.Name⟩⟩, u0, u1, u2]⟩ ∧ SL w [] w_ [Sl T_api_Class u0 r.Classes, Sl T_api_Func u1 r.Funcs, Sl (Ty.slice Ty.u8) u2 r.Certs]) := by
 have s0 : SL w [] w [] := SL.init0 w
 refine Bn Tryz.func5 rfl Tryz.ntmps5 (Ag rfl) (args := [.agg ⟨[.string ⟨⟨a0.Name⟩⟩, v0_1, v0_2, v0_3]⟩]) fun q0 F0 => ?_
 unfold provisoplain_Module at H
 refine Ah <| Ak <| Db F0 s0 rfl rfl rfl fun g0 w0 _ F s1 => Bo F s1 Fx.zero26 rfl rfl fun g1 w1 _ F s2 => Ai <| Ac <| Ah ?_
 obtain ⟨o0, H0, R0⟩ := Ap H
 clear H
 refine Bx (fun a w_ => ∃ g2 : Nat, ∃ v0 : Value, Fr a 45 [(1, .pointer (some ⟨g0, 0, none⟩)), (2, .pointer (some ⟨g1, 0, none⟩)), (3, .pointer (some ⟨g2, 0, none⟩))] ∧ SL w [] w_ [Blk g1 26 [.string ⟨⟨[]⟩⟩, .slice none 0 0, .slice none 0 0, .slice none 0 0], Blk g0 26 [.string ⟨⟨a0.Name⟩⟩, v0_1, v0_2, v0_3], Sl T_api_Class v0 o0, Blk g2 26 [.string ⟨⟨a0.Name⟩⟩, v0, .slice none 0 0, .slice none 0 0]]) ?_ ?_
 ·have H := H0
  obtain ⟨x0, h0, H⟩ := Ap H
  refine Dj Fx.mixed (fun w_ => SL w [] w_ [Blk g1 26 [.string ⟨⟨[]⟩⟩, .slice none 0 0, .slice none 0 0, .slice none 0 0], Blk g0 26 [.string ⟨⟨a0.Name⟩⟩, v0_1, v0_2, v0_3]]) ?_
  have s3 := s2.drew
  have s4 : SL w [] _ [Blk g1 26 [.string ⟨⟨[]⟩⟩, .slice none 0 0, .slice none 0 0, .slice none 0 0], Blk g0 26 [.string ⟨⟨a0.Name⟩⟩, v0_1, v0_2, v0_3]] := s3
  refine Bv (i := 0) rfl (by kernel_rfl) (by kernel_rfl) (by kernel_rfl) (fun _ hC => Ax Fx.fa26_0 rfl rfl) rfl rfl rfl F s4 fun _ F => ?_
  refine Bv (i := 1) rfl (by kernel_rfl) (by kernel_rfl) (by kernel_rfl) (fun _ hC => Az Fx.nag9 rfl (hC.blk_cell (.tail _ <| .head _) rfl)) rfl rfl rfl F s4 fun _ F => ?_
  refine Bv (i := 2) rfl (by kernel_rfl) (by kernel_rfl) (by kernel_rfl) (fun _ hC => Ax Fx.fa26_1 rfl rfl) rfl rfl rfl F s4 fun _ F => ?_
  refine Bv (i := 3) rfl (by kernel_rfl) (by kernel_rfl) (by kernel_rfl) (fun _ hC => Az Fx.nag22 rfl (hC.blk_cell (.tail _ <| .head _) rfl)) rfl rfl rfl F s4 fun _ F => ?_
  refine Cl (rs := [4, 6]) (by kernel_rfl) (by decide) (Bs (Br rfl ?_) (Bs (Br rfl ?_) (Co)))
  ·refine Bk (args := [.tmp 11]) F Fx.fn9 rfl (provisoplain_Classes_c (a0 := a0.Classes)   (hr0_1.pass0 s3) h0) rfl fun v1 w2 _ h1 F => ?_
   obtain ⟨_, rfl, h2⟩ := h1
   have s5 := s3.add h2
   have s6 : SL w [] _ [Blk g1 26 [.string ⟨⟨[]⟩⟩, .slice none 0 0, .slice none 0 0, .slice none 0 0], Blk g0 26 [.string ⟨⟨a0.Name⟩⟩, v0_1, v0_2, v0_3]] := s5.drop
   refine Ar ⟨s6, ?_⟩
   refine Cl (rs := [5, 6]) (by kernel_rfl) (by decide) (Bs (Br rfl ?_) (Bs (Br rfl ?_) (Co)))
   ·have h3 := (Bu (s5.own_rd (.head _)))
    refine Bt F (Cn (vs := [.string ⟨⟨a0.Name⟩⟩, v1]) Fx.zero26 Fx.pl26 rfl (cs := [.string ⟨⟨a0.Name⟩⟩, v1, .slice none 0 0, .slice none 0 0]) (by obtain ⟨_, _, e_0⟩ := h3; rw [e_0] <;> rfl)) rfl rfl rfl fun _ F => ?_
    have s7 : SL w [] _ [Blk g1 26 [.string ⟨⟨[]⟩⟩, .slice none 0 0, .slice none 0 0, .slice none 0 0], Blk g0 26 [.string ⟨⟨a0.Name⟩⟩, v0_1, v0_2, v0_3]] := s5.drop
    refine Ar ⟨s7, ?_⟩
    refine Be (i := 6) rfl (by kernel_rfl) ?_
    refine Bo F s5 Fx.zero26 rfl rfl fun g3 w3 _ F s8 => ?_
    have s9 : SL w [] _ [Blk g1 26 [.string ⟨⟨[]⟩⟩, .slice none 0 0, .slice none 0 0, .slice none 0 0], Blk g0 26 [.string ⟨⟨a0.Name⟩⟩, v0_1, v0_2, v0_3]] := s8.drop.drop
    refine Ar ⟨s9, ?_⟩
    refine Be (i := 7) rfl (by kernel_rfl) ?_
    have sa := s8
    refine As F sa rfl rfl Fx.sz26 (Ae rfl (Ae (Cd (Bu (sa.own_rd (.tail _ <| .head _)))) (Ae rfl (Ae rfl Ba)))) (Ag rfl) fun w4 _ F sb => ?_
    replace sb : SL w [] w4 [Blk g3 26 [.string ⟨⟨a0.Name⟩⟩, v1, .slice none 0 0, .slice none 0 0], Sl T_api_Class v1 x0, Blk g1 26 [.string ⟨⟨[]⟩⟩, .slice none 0 0, .slice none 0 0, .slice none 0 0], Blk g0 26 [.string ⟨⟨a0.Name⟩⟩, v0_1, v0_2, v0_3]] := sb
    have sc : SL w [] _ [Blk g1 26 [.string ⟨⟨[]⟩⟩, .slice none 0 0, .slice none 0 0, .slice none 0 0], Blk g0 26 [.string ⟨⟨a0.Name⟩⟩, v0_1, v0_2, v0_3]] := sb.drop.drop
    refine Ar ⟨sc, ?_⟩
    refine Ce (by kernel_rfl) ?_
    obtain rfl := An H
    refine Ac ?_
    exact ⟨g3, v1, F.sub ⟨rfl, rfl, rfl, trivial⟩, sb.f1.f3.f3⟩
   refine Bo F s5 Fx.zero26 rfl rfl fun g4 w5 _ F sd => ?_
   have se : SL w [] _ [Blk g1 26 [.string ⟨⟨[]⟩⟩, .slice none 0 0, .slice none 0 0, .slice none 0 0], Blk g0 26 [.string ⟨⟨a0.Name⟩⟩, v0_1, v0_2, v0_3]] := sd.drop.drop
   refine Ar ⟨se, ?_⟩
   refine Be (i := 5) rfl (by kernel_rfl) ?_
   have h4 := (Bu (sd.own_rd (.tail _ <| .head _)))
   refine Bt F (Cn (vs := [.string ⟨⟨a0.Name⟩⟩, v1]) Fx.zero26 Fx.pl26 rfl (cs := [.string ⟨⟨a0.Name⟩⟩, v1, .slice none 0 0, .slice none 0 0]) (by obtain ⟨_, _, e_0⟩ := h4; rw [e_0] <;> rfl)) rfl rfl rfl fun _ F => ?_
   have sf : SL w [] _ [Blk g1 26 [.string ⟨⟨[]⟩⟩, .slice none 0 0, .slice none 0 0, .slice none 0 0], Blk g0 26 [.string ⟨⟨a0.Name⟩⟩, v0_1, v0_2, v0_3]] := sd.drop.drop
   refine Ar ⟨sf, ?_⟩
   refine Be (i := 7) rfl (by kernel_rfl) ?_
   have sg := sd
   refine As F sg rfl rfl Fx.sz26 (Ae rfl (Ae (Cd (Bu (sg.own_rd (.tail _ <| .head _)))) (Ae rfl (Ae rfl Ba)))) (Ag rfl) fun w6 _ F sh => ?_
   replace sh : SL w [] w6 [Blk g4 26 [.string ⟨⟨a0.Name⟩⟩, v1, .slice none 0 0, .slice none 0 0], Sl T_api_Class v1 x0, Blk g1 26 [.string ⟨⟨[]⟩⟩, .slice none 0 0, .slice none 0 0, .slice none 0 0], Blk g0 26 [.string ⟨⟨a0.Name⟩⟩, v0_1, v0_2, v0_3]] := sh
   have si : SL w [] _ [Blk g1 26 [.string ⟨⟨[]⟩⟩, .slice none 0 0, .slice none 0 0, .slice none 0 0], Blk g0 26 [.string ⟨⟨a0.Name⟩⟩, v0_1, v0_2, v0_3]] := sh.drop.drop
   refine Ar ⟨si, ?_⟩
   refine Ce (by kernel_rfl) ?_
   obtain rfl := An H
   refine Ac ?_
   exact ⟨g4, v1, F.sub ⟨rfl, rfl, rfl, trivial⟩, sh.f1.f3.f3⟩
  refine Bo F s3 Fx.zero26 rfl rfl fun g5 w7 _ F sj => ?_
  have sk : SL w [] _ [Blk g1 26 [.string ⟨⟨[]⟩⟩, .slice none 0 0, .slice none 0 0, .slice none 0 0], Blk g0 26 [.string ⟨⟨a0.Name⟩⟩, v0_1, v0_2, v0_3]] := sj.drop
  refine Ar ⟨sk, ?_⟩
  refine Be (i := 4) rfl (by kernel_rfl) ?_
  refine Bk (args := [.tmp 11]) F Fx.fn9 rfl (provisoplain_Classes_c (a0 := a0.Classes)   (hr0_1.pass0 sj) h0) rfl fun v2 w8 _ h5 F => ?_
  obtain ⟨_, rfl, h6⟩ := h5
  have sl := sj.add h6
  have sm : SL w [] _ [Blk g1 26 [.string ⟨⟨[]⟩⟩, .slice none 0 0, .slice none 0 0, .slice none 0 0], Blk g0 26 [.string ⟨⟨a0.Name⟩⟩, v0_1, v0_2, v0_3]] := sl.drop.drop
  refine Ar ⟨sm, ?_⟩
  refine Be (i := 5) rfl (by kernel_rfl) ?_
  have h7 := (Bu (sl.own_rd (.head _)))
  refine Bt F (Cn (vs := [.string ⟨⟨a0.Name⟩⟩, v2]) Fx.zero26 Fx.pl26 rfl (cs := [.string ⟨⟨a0.Name⟩⟩, v2, .slice none 0 0, .slice none 0 0]) (by obtain ⟨_, _, e_0⟩ := h7; rw [e_0] <;> rfl)) rfl rfl rfl fun _ F => ?_
  have sn : SL w [] _ [Blk g1 26 [.string ⟨⟨[]⟩⟩, .slice none 0 0, .slice none 0 0, .slice none 0 0], Blk g0 26 [.string ⟨⟨a0.Name⟩⟩, v0_1, v0_2, v0_3]] := sl.drop.drop
  refine Ar ⟨sn, ?_⟩
  refine Be (i := 7) rfl (by kernel_rfl) ?_
  have so := sl.f1
  refine As F so rfl rfl Fx.sz26 (Ae rfl (Ae (Cd (Bu (so.own_rd (.tail _ <| .head _)))) (Ae rfl (Ae rfl Ba)))) (Ag rfl) fun w9 _ F sp => ?_
  replace sp : SL w [] w9 [Blk g5 26 [.string ⟨⟨a0.Name⟩⟩, v2, .slice none 0 0, .slice none 0 0], Sl T_api_Class v2 x0, Blk g1 26 [.string ⟨⟨[]⟩⟩, .slice none 0 0, .slice none 0 0, .slice none 0 0], Blk g0 26 [.string ⟨⟨a0.Name⟩⟩, v0_1, v0_2, v0_3]] := sp
  have sq : SL w [] _ [Blk g1 26 [.string ⟨⟨[]⟩⟩, .slice none 0 0, .slice none 0 0, .slice none 0 0], Blk g0 26 [.string ⟨⟨a0.Name⟩⟩, v0_1, v0_2, v0_3]] := sp.drop.drop
  refine Ar ⟨sq, ?_⟩
  refine Ce (by kernel_rfl) ?_
  obtain rfl := An H
  refine Ac ?_
  exact ⟨g5, v2, F.sub ⟨rfl, rfl, rfl, trivial⟩, sp.f1.f3.f3⟩
 intro _ wa hJ
 obtain ⟨g2, v0, F, sr⟩ := hJ
 have H := R0
 clear R0 H0
 refine Ac <| Ah <| Ah <| Ak <| Aj F (Aa (Ax Fx.fa26_2 rfl rfl) <| Aa (Az Fx.nag23 rfl (sr.blk_cell (.tail _ <| .head _) rfl)) <| Aa (Cc rfl Tryz.underlying23 (Bu (Cv hr0_2 sr))) <| Aa (Af rfl) <| Ad) fun _ F => Ai <| Ac ?_
 obtain ⟨o1, H1, R1⟩ := Ap H
 clear H
 refine Bx (fun a w_ => ∃ v3 : Value, Fr a 45 [(1, .pointer (some ⟨g0, 0, none⟩)), (2, .pointer (some ⟨g1, 0, none⟩)), (3, .pointer (some ⟨g2, 0, none⟩))] ∧ SL w [] w_ [Blk g1 26 [.string ⟨⟨[]⟩⟩, .slice none 0 0, .slice none 0 0, .slice none 0 0], Blk g0 26 [.string ⟨⟨a0.Name⟩⟩, v0_1, v0_2, v0_3], Sl T_api_Class v0 o0, Blk g2 26 [.string ⟨⟨a0.Name⟩⟩, v0, v3, .slice none 0 0], Sl T_api_Func v3 o1]) ?_ ?_
 ·have H := H1
  refine Bh <| Cu (provisoplain_Module_b0 a0) (fun ss a w_ => ∃ v4 : Value, Fr a 45 [(1, .pointer (some ⟨g0, 0, none⟩)), (2, .pointer (some ⟨g1, 0, none⟩)), (3, .pointer (some ⟨g2, 0, none⟩)), (15, v0_2), (16, .int .i64 (a0.Funcs.length : Int)), (17, .int .i64 ss.2)] ∧ SL w [] w_ [Blk g1 26 [.string ⟨⟨[]⟩⟩, .slice none 0 0, .slice none 0 0, .slice none 0 0], Blk g0 26 [.string ⟨⟨a0.Name⟩⟩, v0_1, v0_2, v0_3], Sl T_api_Class v0 o0, Blk g2 26 [.string ⟨⟨a0.Name⟩⟩, v0, v4, .slice none 0 0], Sl T_api_Func v4 ss.1]) H ?_ ?_
  ·exact ⟨(.slice none 0 0), F.sub ⟨rfl, rfl, rfl, rfl, rfl, rfl, trivial⟩, (SL.nilSl (T := T_api_Func) sr).f4.f4.f4.f4⟩
  intro ss _ wb h8 o2 H hr
  obtain ⟨v4, F, st⟩ := h8
  replace H : provisoplain_Module_b0 a0 ss = some o2 := H
  unfold provisoplain_Module_b0 at H
  refine Ah <| Ak <| Aj F (Aa (Cr rfl rfl) <| Ad) fun _ F => Ai <| Ac <| Ah <| Bm F rfl (fun h9 => ?_) (fun h9 => ?_)
  ·replace H := Bb h9 H
   refine Aw <| Ac <| Ah <| Bh <| Ah <| Ak ?_
   obtain ⟨x1, ha, H⟩ := Ap H
   obtain ⟨a1, c0, G0, hb, hc, hd, he⟩ := Rd.idx hr0_2 Fx.sl23 rfl ha
   obtain ⟨v5, v6, rfl, hf, hg⟩ := (R_api_Func hd he)
   replace hc := hc _ _ st
   refine Aj F (Aa (hb _ _ _ _ _ _ _ _ _ _ rfl rfl) <| Aa (Bj Fx.agg40 rfl hc rfl) <| Ad) fun _ F => Bo F st Fx.zero40 rfl rfl fun g6 wc _ F su => ?_
   have sv := su
   refine As F sv rfl rfl Fx.sz40 (Ae rfl (Ae (Cd (Bu (Cv hf sv))) (Ae rfl (Ae rfl (Ae (Cd (Bu (Cv hg sv))) Ba))))) (Ag rfl) fun wd _ F sw => ?_
   replace sw : SL w [] wd [Blk g6 40 [.string ⟨⟨x1.Name⟩⟩, v5, .int .u8 (x1.Sig.Result.toNat : Int), .int .i64 x1.Locals, v6], Blk g1 26 [.string ⟨⟨[]⟩⟩, .slice none 0 0, .slice none 0 0, .slice none 0 0], Blk g0 26 [.string ⟨⟨a0.Name⟩⟩, v0_1, v0_2, v0_3], Sl T_api_Class v0 o0, Blk g2 26 [.string ⟨⟨a0.Name⟩⟩, v0, v4, .slice none 0 0], Sl T_api_Func v4 ss.1] := sw
   refine Ai <| Ac ?_
   obtain ⟨x2, hh, H⟩ := Ap H
   obtain ⟨x3, hi, H⟩ := Ap H
   refine Dj Fx.mixed (fun w_ => SL w [] w_ [Blk g6 40 [.string ⟨⟨x1.Name⟩⟩, v5, .int .u8 (x1.Sig.Result.toNat : Int), .int .i64 x1.Locals, v6], Blk g1 26 [.string ⟨⟨[]⟩⟩, .slice none 0 0, .slice none 0 0, .slice none 0 0], Blk g0 26 [.string ⟨⟨a0.Name⟩⟩, v0_1, v0_2, v0_3], Sl T_api_Class v0 o0]) ?_
   have sx := sw.drew
   have sy : SL w [] _ [Blk g6 40 [.string ⟨⟨x1.Name⟩⟩, v5, .int .u8 (x1.Sig.Result.toNat : Int), .int .i64 x1.Locals, v6], Blk g1 26 [.string ⟨⟨[]⟩⟩, .slice none 0 0, .slice none 0 0, .slice none 0 0], Blk g0 26 [.string ⟨⟨a0.Name⟩⟩, v0_1, v0_2, v0_3], Sl T_api_Class v0 o0] := sx.f4.drop.f4.drop
   refine Bv (i := 0) rfl (by kernel_rfl) (by kernel_rfl) (by kernel_rfl) (fun _ hC => Ax Fx.fa26_2 rfl rfl) rfl rfl rfl F sy fun _ F => ?_
   refine Bv (i := 2) rfl (by kernel_rfl) (by kernel_rfl) (by kernel_rfl) (fun _ hC => Bj Fx.agg40 rfl (hC.blk_cells (.head _) (o := 0) (ds := [.string ⟨⟨x1.Name⟩⟩, v5, .int .u8 (x1.Sig.Result.toNat : Int), .int .i64 x1.Locals, v6]) (fun j u hu => by rw [Nat.zero_add]; exact hu)) rfl) rfl rfl rfl F sy fun _ F => ?_
   refine Cl (rs := [1, 3]) (by kernel_rfl) (by decide) (Bs (Br rfl ?_) (Bs (Br rfl ?_) (Co)))
   ·refine Bt F (Az Fx.nag23 rfl (sx.blk_cell (.tail _ <| .tail _ <| .tail _ <| .tail _ <| .head _) rfl)) rfl rfl rfl fun _ F => ?_
    have sz : SL w [] _ [Blk g6 40 [.string ⟨⟨x1.Name⟩⟩, v5, .int .u8 (x1.Sig.Result.toNat : Int), .int .i64 x1.Locals, v6], Blk g1 26 [.string ⟨⟨[]⟩⟩, .slice none 0 0, .slice none 0 0, .slice none 0 0], Blk g0 26 [.string ⟨⟨a0.Name⟩⟩, v0_1, v0_2, v0_3], Sl T_api_Class v0 o0] := sx.f4.drop.f4.drop
    refine Ar ⟨sz, ?_⟩
    refine Be (i := 3) rfl (by kernel_rfl) ?_
    refine Bk (args := [.tmp 23]) F Fx.fn10 rfl (provisoplain_Func_c (a0 := (⟨x1.Name, (⟨x1.Sig.Params, x1.Sig.Result⟩ : S_api_Sig), x1.Locals, x1.Code⟩ : S_api_Func))   (hf.pass0 sx) (hg.pass0 sx) hh) rfl fun v7 we _ hj F => ?_
    obtain ⟨v8, v9, rfl, hk⟩ := hj
    have s10 := sx.add hk
    have s11 : SL w [] _ [Blk g6 40 [.string ⟨⟨x1.Name⟩⟩, v5, .int .u8 (x1.Sig.Result.toNat : Int), .int .i64 x1.Locals, v6], Blk g1 26 [.string ⟨⟨[]⟩⟩, .slice none 0 0, .slice none 0 0, .slice none 0 0], Blk g0 26 [.string ⟨⟨a0.Name⟩⟩, v0_1, v0_2, v0_3], Sl T_api_Class v0 o0] := s10.drop.drop.f4.drop.f4.drop
    refine Ar ⟨s11, ?_⟩
    refine Be (i := 4) rfl (by kernel_rfl) ?_
    have s12 : SL w [] _ (Dt T_api_Func (⟨x2.Name, (⟨x2.Sig.Params, x2.Sig.Result⟩ : S_api_Sig), x2.Locals, x2.Code⟩ : S_api_Func) [.string ⟨⟨x2.Name⟩⟩, v8, .int .u8 (x2.Sig.Result.toNat : Int), .int .i64 x2.Locals, v9] :: [Blk g6 40 [.string ⟨⟨x1.Name⟩⟩, v5, .int .u8 (x1.Sig.Result.toNat : Int), .int .i64 x1.Locals, v6], Blk g1 26 [.string ⟨⟨[]⟩⟩, .slice none 0 0, .slice none 0 0, .slice none 0 0], Blk g0 26 [.string ⟨⟨a0.Name⟩⟩, v0_1, v0_2, v0_3], Sl T_api_Class v0 o0, Blk g2 26 [.string ⟨⟨a0.Name⟩⟩, v0, v4, .slice none 0 0], Sl T_api_Func v4 ss.1]) := (SL.diso (f := t_api_Func) (x := (⟨x2.Name, (⟨x2.Sig.Params, x2.Sig.Result⟩ : S_api_Sig), x2.Locals, x2.Code⟩ : S_api_Func)) (SL.dpair (SL.dflat (SL.dpair (SL.diso (f := t_api_Sig) (x := (⟨x2.Sig.Params, x2.Sig.Result⟩ : S_api_Sig)) (SL.dpair (SL.dsl (SL.dflat (SL.dpair (SL.dflat (SL.dsl s10.f1) (Flat.int .i64) x2.Locals)) Flat.u8 x2.Sig.Result).f2)))) Flat.str x2.Name)))
    refine Dh F s12 Fx.sl23 rfl (by decide) rfl rfl rfl fun va wf _ F s13 => ?_
    have s14 : SL w [] _ [Blk g6 40 [.string ⟨⟨x1.Name⟩⟩, v5, .int .u8 (x1.Sig.Result.toNat : Int), .int .i64 x1.Locals, v6], Blk g1 26 [.string ⟨⟨[]⟩⟩, .slice none 0 0, .slice none 0 0, .slice none 0 0], Blk g0 26 [.string ⟨⟨a0.Name⟩⟩, v0_1, v0_2, v0_3], Sl T_api_Class v0 o0] := s13.drop.f4.drop.f4.drop
    refine Ar ⟨s14, ?_⟩
    refine Be (i := 5) rfl (by kernel_rfl) ?_
    refine Dc F s13.f6 Fx.sl23 rfl rfl rfl rfl rfl rfl hi rfl fun vb wg _ F s15 => ?_
    have s16 : SL w [] _ [Blk g6 40 [.string ⟨⟨x1.Name⟩⟩, v5, .int .u8 (x1.Sig.Result.toNat : Int), .int .i64 x1.Locals, v6], Blk g1 26 [.string ⟨⟨[]⟩⟩, .slice none 0 0, .slice none 0 0, .slice none 0 0], Blk g0 26 [.string ⟨⟨a0.Name⟩⟩, v0_1, v0_2, v0_3], Sl T_api_Class v0 o0] := s15.drop.f4.drop
    refine Ar ⟨s16, ?_⟩
    refine Be (i := 6) rfl (by kernel_rfl) ?_
    refine Bt F (Ax Fx.fa26_2 rfl rfl) rfl rfl rfl fun _ F => ?_
    have s18 : SL w [] _ [Blk g6 40 [.string ⟨⟨x1.Name⟩⟩, v5, .int .u8 (x1.Sig.Result.toNat : Int), .int .i64 x1.Locals, v6], Blk g1 26 [.string ⟨⟨[]⟩⟩, .slice none 0 0, .slice none 0 0, .slice none 0 0], Blk g0 26 [.string ⟨⟨a0.Name⟩⟩, v0_1, v0_2, v0_3], Sl T_api_Class v0 o0] := s15.drop.f4.drop
    refine Ar ⟨s18, ?_⟩
    refine Be (i := 7) rfl (by kernel_rfl) ?_
    have s19 := s15.f5
    refine Cq F s19 rfl rfl Fx.sz23 (Ct (Bu (s19.own_rd (.tail _ <| .head _)))) (Cd (Bu (s19.own_rd (.tail _ <| .head _)))) rfl fun wh _ F s1a => ?_
    replace s1a : SL w [] wh [Blk g2 26 [.string ⟨⟨a0.Name⟩⟩, v0, vb, .slice none 0 0], Sl T_api_Func vb x3, Blk g6 40 [.string ⟨⟨x1.Name⟩⟩, v5, .int .u8 (x1.Sig.Result.toNat : Int), .int .i64 x1.Locals, v6], Blk g1 26 [.string ⟨⟨[]⟩⟩, .slice none 0 0, .slice none 0 0, .slice none 0 0], Blk g0 26 [.string ⟨⟨a0.Name⟩⟩, v0_1, v0_2, v0_3], Sl T_api_Class v0 o0] := s1a
    have s1b : SL w [] _ [Blk g6 40 [.string ⟨⟨x1.Name⟩⟩, v5, .int .u8 (x1.Sig.Result.toNat : Int), .int .i64 x1.Locals, v6], Blk g1 26 [.string ⟨⟨[]⟩⟩, .slice none 0 0, .slice none 0 0, .slice none 0 0], Blk g0 26 [.string ⟨⟨a0.Name⟩⟩, v0_1, v0_2, v0_3], Sl T_api_Class v0 o0] := s1a.drop.drop
    refine Ar ⟨s1b, ?_⟩
    refine Ce (by kernel_rfl) ?_
    refine Bz <| Ac <| Ak <| Aj F (Aa (Bq rfl rfl) <| Aa (Af rfl) <| Ad) fun _ F => Ai ?_
    obtain rfl := An H
    refine Ac ?_
    exact ⟨_, rfl, vb, F.sub ⟨rfl, rfl, rfl, rfl, rfl, rfl, trivial⟩, s1a.f2.drop.f1.f1.f4.f4.f4⟩
   refine Bk (args := [.tmp 23]) F Fx.fn10 rfl (provisoplain_Func_c (a0 := (⟨x1.Name, (⟨x1.Sig.Params, x1.Sig.Result⟩ : S_api_Sig), x1.Locals, x1.Code⟩ : S_api_Func))   (hf.pass0 sx) (hg.pass0 sx) hh) rfl fun vc wi _ hl F => ?_
   obtain ⟨vd, ve, rfl, hm⟩ := hl
   have s1c := sx.add hm
   have s1d : SL w [] _ [Blk g6 40 [.string ⟨⟨x1.Name⟩⟩, v5, .int .u8 (x1.Sig.Result.toNat : Int), .int .i64 x1.Locals, v6], Blk g1 26 [.string ⟨⟨[]⟩⟩, .slice none 0 0, .slice none 0 0, .slice none 0 0], Blk g0 26 [.string ⟨⟨a0.Name⟩⟩, v0_1, v0_2, v0_3], Sl T_api_Class v0 o0] := s1c.drop.drop.f4.drop.f4.drop
   refine Ar ⟨s1d, ?_⟩
   refine Cl (rs := [1, 4]) (by kernel_rfl) (by decide) (Bs (Br rfl ?_) (Bs (Br rfl ?_) (Co)))
   ·refine Bt F (Az Fx.nag23 rfl (s1c.blk_cell (.tail _ <| .tail _ <| .tail _ <| .tail _ <| .tail _ <| .tail _ <| .head _) rfl)) rfl rfl rfl fun _ F => ?_
    have s1e : SL w [] _ [Blk g6 40 [.string ⟨⟨x1.Name⟩⟩, v5, .int .u8 (x1.Sig.Result.toNat : Int), .int .i64 x1.Locals, v6], Blk g1 26 [.string ⟨⟨[]⟩⟩, .slice none 0 0, .slice none 0 0, .slice none 0 0], Blk g0 26 [.string ⟨⟨a0.Name⟩⟩, v0_1, v0_2, v0_3], Sl T_api_Class v0 o0] := s1c.drop.drop.f4.drop.f4.drop
    refine Ar ⟨s1e, ?_⟩
    refine Be (i := 4) rfl (by kernel_rfl) ?_
    have s1f : SL w [] _ (Dt T_api_Func (⟨x2.Name, (⟨x2.Sig.Params, x2.Sig.Result⟩ : S_api_Sig), x2.Locals, x2.Code⟩ : S_api_Func) [.string ⟨⟨x2.Name⟩⟩, vd, .int .u8 (x2.Sig.Result.toNat : Int), .int .i64 x2.Locals, ve] :: [Blk g6 40 [.string ⟨⟨x1.Name⟩⟩, v5, .int .u8 (x1.Sig.Result.toNat : Int), .int .i64 x1.Locals, v6], Blk g1 26 [.string ⟨⟨[]⟩⟩, .slice none 0 0, .slice none 0 0, .slice none 0 0], Blk g0 26 [.string ⟨⟨a0.Name⟩⟩, v0_1, v0_2, v0_3], Sl T_api_Class v0 o0, Blk g2 26 [.string ⟨⟨a0.Name⟩⟩, v0, v4, .slice none 0 0], Sl T_api_Func v4 ss.1]) := (SL.diso (f := t_api_Func) (x := (⟨x2.Name, (⟨x2.Sig.Params, x2.Sig.Result⟩ : S_api_Sig), x2.Locals, x2.Code⟩ : S_api_Func)) (SL.dpair (SL.dflat (SL.dpair (SL.diso (f := t_api_Sig) (x := (⟨x2.Sig.Params, x2.Sig.Result⟩ : S_api_Sig)) (SL.dpair (SL.dsl (SL.dflat (SL.dpair (SL.dflat (SL.dsl s1c.f1) (Flat.int .i64) x2.Locals)) Flat.u8 x2.Sig.Result).f2)))) Flat.str x2.Name)))
    refine Dh F s1f Fx.sl23 rfl (by decide) rfl rfl rfl fun vf wj _ F s1g => ?_
    have s1h : SL w [] _ [Blk g6 40 [.string ⟨⟨x1.Name⟩⟩, v5, .int .u8 (x1.Sig.Result.toNat : Int), .int .i64 x1.Locals, v6], Blk g1 26 [.string ⟨⟨[]⟩⟩, .slice none 0 0, .slice none 0 0, .slice none 0 0], Blk g0 26 [.string ⟨⟨a0.Name⟩⟩, v0_1, v0_2, v0_3], Sl T_api_Class v0 o0] := s1g.drop.f4.drop.f4.drop
    refine Ar ⟨s1h, ?_⟩
    refine Be (i := 5) rfl (by kernel_rfl) ?_
    refine Dc F s1g.f6 Fx.sl23 rfl rfl rfl rfl rfl rfl hi rfl fun vg wk _ F s1i => ?_
    have s1j : SL w [] _ [Blk g6 40 [.string ⟨⟨x1.Name⟩⟩, v5, .int .u8 (x1.Sig.Result.toNat : Int), .int .i64 x1.Locals, v6], Blk g1 26 [.string ⟨⟨[]⟩⟩, .slice none 0 0, .slice none 0 0, .slice none 0 0], Blk g0 26 [.string ⟨⟨a0.Name⟩⟩, v0_1, v0_2, v0_3], Sl T_api_Class v0 o0] := s1i.drop.f4.drop
    refine Ar ⟨s1j, ?_⟩
    refine Be (i := 6) rfl (by kernel_rfl) ?_
    refine Bt F (Ax Fx.fa26_2 rfl rfl) rfl rfl rfl fun _ F => ?_
    have s1k : SL w [] _ [Blk g6 40 [.string ⟨⟨x1.Name⟩⟩, v5, .int .u8 (x1.Sig.Result.toNat : Int), .int .i64 x1.Locals, v6], Blk g1 26 [.string ⟨⟨[]⟩⟩, .slice none 0 0, .slice none 0 0, .slice none 0 0], Blk g0 26 [.string ⟨⟨a0.Name⟩⟩, v0_1, v0_2, v0_3], Sl T_api_Class v0 o0] := s1i.drop.f4.drop
    refine Ar ⟨s1k, ?_⟩
    refine Be (i := 7) rfl (by kernel_rfl) ?_
    have s1l := s1i.f5
    refine Cq F s1l rfl rfl Fx.sz23 (Ct (Bu (s1l.own_rd (.tail _ <| .head _)))) (Cd (Bu (s1l.own_rd (.tail _ <| .head _)))) rfl fun wl _ F s1m => ?_
    replace s1m : SL w [] wl [Blk g2 26 [.string ⟨⟨a0.Name⟩⟩, v0, vg, .slice none 0 0], Sl T_api_Func vg x3, Blk g6 40 [.string ⟨⟨x1.Name⟩⟩, v5, .int .u8 (x1.Sig.Result.toNat : Int), .int .i64 x1.Locals, v6], Blk g1 26 [.string ⟨⟨[]⟩⟩, .slice none 0 0, .slice none 0 0, .slice none 0 0], Blk g0 26 [.string ⟨⟨a0.Name⟩⟩, v0_1, v0_2, v0_3], Sl T_api_Class v0 o0] := s1m
    have s1n : SL w [] _ [Blk g6 40 [.string ⟨⟨x1.Name⟩⟩, v5, .int .u8 (x1.Sig.Result.toNat : Int), .int .i64 x1.Locals, v6], Blk g1 26 [.string ⟨⟨[]⟩⟩, .slice none 0 0, .slice none 0 0, .slice none 0 0], Blk g0 26 [.string ⟨⟨a0.Name⟩⟩, v0_1, v0_2, v0_3], Sl T_api_Class v0 o0] := s1m.drop.drop
    refine Ar ⟨s1n, ?_⟩
    refine Ce (by kernel_rfl) ?_
    refine Bz <| Ac <| Ak <| Aj F (Aa (Bq rfl rfl) <| Aa (Af rfl) <| Ad) fun _ F => Ai ?_
    obtain rfl := An H
    refine Ac ?_
    exact ⟨_, rfl, vg, F.sub ⟨rfl, rfl, rfl, rfl, rfl, rfl, trivial⟩, s1m.f2.drop.f1.f1.f4.f4.f4⟩
   have s1o : SL w [] _ (Dt T_api_Func (⟨x2.Name, (⟨x2.Sig.Params, x2.Sig.Result⟩ : S_api_Sig), x2.Locals, x2.Code⟩ : S_api_Func) [.string ⟨⟨x2.Name⟩⟩, vd, .int .u8 (x2.Sig.Result.toNat : Int), .int .i64 x2.Locals, ve] :: [Blk g6 40 [.string ⟨⟨x1.Name⟩⟩, v5, .int .u8 (x1.Sig.Result.toNat : Int), .int .i64 x1.Locals, v6], Blk g1 26 [.string ⟨⟨[]⟩⟩, .slice none 0 0, .slice none 0 0, .slice none 0 0], Blk g0 26 [.string ⟨⟨a0.Name⟩⟩, v0_1, v0_2, v0_3], Sl T_api_Class v0 o0, Blk g2 26 [.string ⟨⟨a0.Name⟩⟩, v0, v4, .slice none 0 0], Sl T_api_Func v4 ss.1]) := (SL.diso (f := t_api_Func) (x := (⟨x2.Name, (⟨x2.Sig.Params, x2.Sig.Result⟩ : S_api_Sig), x2.Locals, x2.Code⟩ : S_api_Func)) (SL.dpair (SL.dflat (SL.dpair (SL.diso (f := t_api_Sig) (x := (⟨x2.Sig.Params, x2.Sig.Result⟩ : S_api_Sig)) (SL.dpair (SL.dsl (SL.dflat (SL.dpair (SL.dflat (SL.dsl s1c.f1) (Flat.int .i64) x2.Locals)) Flat.u8 x2.Sig.Result).f2)))) Flat.str x2.Name)))
   refine Dh F s1o Fx.sl23 rfl (by decide) rfl rfl rfl fun vh wm _ F s1p => ?_
   have s1q : SL w [] _ [Blk g6 40 [.string ⟨⟨x1.Name⟩⟩, v5, .int .u8 (x1.Sig.Result.toNat : Int), .int .i64 x1.Locals, v6], Blk g1 26 [.string ⟨⟨[]⟩⟩, .slice none 0 0, .slice none 0 0, .slice none 0 0], Blk g0 26 [.string ⟨⟨a0.Name⟩⟩, v0_1, v0_2, v0_3], Sl T_api_Class v0 o0] := s1p.drop.f4.drop.f4.drop
   refine Ar ⟨s1q, ?_⟩
   refine Be (i := 1) rfl (by kernel_rfl) ?_
   refine Bt F (Az Fx.nag23 rfl (s1p.blk_cell (.tail _ <| .tail _ <| .tail _ <| .tail _ <| .tail _ <| .head _) rfl)) rfl rfl rfl fun _ F => ?_
   have s1r : SL w [] _ [Blk g6 40 [.string ⟨⟨x1.Name⟩⟩, v5, .int .u8 (x1.Sig.Result.toNat : Int), .int .i64 x1.Locals, v6], Blk g1 26 [.string ⟨⟨[]⟩⟩, .slice none 0 0, .slice none 0 0, .slice none 0 0], Blk g0 26 [.string ⟨⟨a0.Name⟩⟩, v0_1, v0_2, v0_3], Sl T_api_Class v0 o0] := s1p.drop.f4.drop.f4.drop
   refine Ar ⟨s1r, ?_⟩
   refine Be (i := 5) rfl (by kernel_rfl) ?_
   refine Dc F s1p.f6 Fx.sl23 rfl rfl rfl rfl rfl rfl hi rfl fun vi wn _ F s1s => ?_
   have s1t : SL w [] _ [Blk g6 40 [.string ⟨⟨x1.Name⟩⟩, v5, .int .u8 (x1.Sig.Result.toNat : Int), .int .i64 x1.Locals, v6], Blk g1 26 [.string ⟨⟨[]⟩⟩, .slice none 0 0, .slice none 0 0, .slice none 0 0], Blk g0 26 [.string ⟨⟨a0.Name⟩⟩, v0_1, v0_2, v0_3], Sl T_api_Class v0 o0] := s1s.drop.f4.drop
   refine Ar ⟨s1t, ?_⟩
   refine Be (i := 6) rfl (by kernel_rfl) ?_
   refine Bt F (Ax Fx.fa26_2 rfl rfl) rfl rfl rfl fun _ F => ?_
   have s1u : SL w [] _ [Blk g6 40 [.string ⟨⟨x1.Name⟩⟩, v5, .int .u8 (x1.Sig.Result.toNat : Int), .int .i64 x1.Locals, v6], Blk g1 26 [.string ⟨⟨[]⟩⟩, .slice none 0 0, .slice none 0 0, .slice none 0 0], Blk g0 26 [.string ⟨⟨a0.Name⟩⟩, v0_1, v0_2, v0_3], Sl T_api_Class v0 o0] := s1s.drop.f4.drop
   refine Ar ⟨s1u, ?_⟩
   refine Be (i := 7) rfl (by kernel_rfl) ?_
   have s1v := s1s.f5
   refine Cq F s1v rfl rfl Fx.sz23 (Ct (Bu (s1v.own_rd (.tail _ <| .head _)))) (Cd (Bu (s1v.own_rd (.tail _ <| .head _)))) rfl fun wo _ F s1w => ?_
   replace s1w : SL w [] wo [Blk g2 26 [.string ⟨⟨a0.Name⟩⟩, v0, vi, .slice none 0 0], Sl T_api_Func vi x3, Blk g6 40 [.string ⟨⟨x1.Name⟩⟩, v5, .int .u8 (x1.Sig.Result.toNat : Int), .int .i64 x1.Locals, v6], Blk g1 26 [.string ⟨⟨[]⟩⟩, .slice none 0 0, .slice none 0 0, .slice none 0 0], Blk g0 26 [.string ⟨⟨a0.Name⟩⟩, v0_1, v0_2, v0_3], Sl T_api_Class v0 o0] := s1w
   have s1x : SL w [] _ [Blk g6 40 [.string ⟨⟨x1.Name⟩⟩, v5, .int .u8 (x1.Sig.Result.toNat : Int), .int .i64 x1.Locals, v6], Blk g1 26 [.string ⟨⟨[]⟩⟩, .slice none 0 0, .slice none 0 0, .slice none 0 0], Blk g0 26 [.string ⟨⟨a0.Name⟩⟩, v0_1, v0_2, v0_3], Sl T_api_Class v0 o0] := s1w.drop.drop
   refine Ar ⟨s1x, ?_⟩
   refine Ce (by kernel_rfl) ?_
   refine Bz <| Ac <| Ak <| Aj F (Aa (Bq rfl rfl) <| Aa (Af rfl) <| Ad) fun _ F => Ai ?_
   obtain rfl := An H
   refine Ac ?_
   exact ⟨_, rfl, vi, F.sub ⟨rfl, rfl, rfl, rfl, rfl, rfl, trivial⟩, s1w.f2.drop.f1.f1.f4.f4.f4⟩
  replace H := Bc h9 H
  refine Ca <| Bp <| Bp <| Cb ?_
  obtain rfl := An H
  obtain rfl := hr _ rfl
  refine Ac ?_
  exact ⟨v4, F.sub ⟨rfl, rfl, rfl, trivial⟩, st⟩
 intro _ wp hJ
 obtain ⟨v3, F, s1y⟩ := hJ
 have H := R1
 clear R1 H1
 refine Ac <| Ah <| Ah <| Ak <| Aj F (Aa (Ax Fx.fa26_3 rfl rfl) <| Aa (Az Fx.nag24 rfl (s1y.blk_cell (.tail _ <| .head _) rfl)) <| Aa (Cc rfl Tryz.underlying24 (Bu (Cv hr0_3 s1y))) <| Aa (Af rfl) <| Ad) fun _ F => Ai <| Ac ?_
 obtain ⟨o3, H2, R2⟩ := Ap H
 clear H
 refine Bx (fun a w_ => ∃ vj : Value, Fr a 45 [(2, .pointer (some ⟨g1, 0, none⟩)), (3, .pointer (some ⟨g2, 0, none⟩))] ∧ SL w [] w_ [Blk g1 26 [.string ⟨⟨[]⟩⟩, .slice none 0 0, .slice none 0 0, .slice none 0 0], Sl T_api_Class v0 o0, Blk g2 26 [.string ⟨⟨a0.Name⟩⟩, v0, v3, vj], Sl T_api_Func v3 o1, Sl (Ty.slice Ty.u8) vj o3]) ?_ ?_
 ·have H := H2
  refine Bh <| Cu (provisoplain_Module_b1 a0) (fun s1z a w_ => ∃ vk : Value, Fr a 45 [(2, .pointer (some ⟨g1, 0, none⟩)), (3, .pointer (some ⟨g2, 0, none⟩)), (30, v0_3), (31, .int .i64 (a0.Certs.length : Int)), (32, .int .i64 s1z.2)] ∧ SL w [] w_ [Blk g1 26 [.string ⟨⟨[]⟩⟩, .slice none 0 0, .slice none 0 0, .slice none 0 0], Sl T_api_Class v0 o0, Blk g2 26 [.string ⟨⟨a0.Name⟩⟩, v0, v3, vk], Sl T_api_Func v3 o1, Sl (Ty.slice Ty.u8) vk s1z.1]) H ?_ ?_
  ·exact ⟨(.slice none 0 0), F.sub ⟨rfl, rfl, rfl, rfl, rfl, trivial⟩, (SL.nilSl (T := (Ty.slice Ty.u8)) s1y).f2.drop.f4.f4.f4.f4⟩
  intro s1z _ wq hn o4 H hr
  obtain ⟨vk, F, s20⟩ := hn
  replace H : provisoplain_Module_b1 a0 s1z = some o4 := H
  unfold provisoplain_Module_b1 at H
  refine Ah <| Ak <| Aj F (Aa (Cr rfl rfl) <| Ad) fun _ F => Ai <| Ac <| Ah <| Bm F rfl (fun ho => ?_) (fun ho => ?_)
  ·replace H := Bb ho H
   refine Aw <| Ac <| Ah <| Bh <| Ah <| Ak ?_
   obtain ⟨x4, hp, H⟩ := Ap H
   obtain ⟨a2, c1, G1, hq, hs, ht, hv⟩ := Rd.idx hr0_3 Fx.sl24 rfl hp
   obtain ⟨vl, rfl, hw⟩ := (rd_sl ht hv)
   replace hs := hs _ _ s20
   refine Aj F (Aa (hq _ _ _ _ _ _ _ _ _ _ rfl rfl) <| Aa (Az Fx.nag38 rfl (Cells.at_ hs (o := 0) rfl)) <| Aa (Al rfl) <| Ad) fun _ F => Ai <| Ac ?_
   obtain ⟨x5, hx, H⟩ := Ap H
   obtain ⟨x6, hy, H⟩ := Ap H
   refine Dj Fx.mixed (fun w_ => SL w [] w_ [Blk g1 26 [.string ⟨⟨[]⟩⟩, .slice none 0 0, .slice none 0 0, .slice none 0 0], Sl T_api_Class v0 o0, Sl T_api_Func v3 o1]) ?_
   have s21 := s20.drew
   have s22 : SL w [] _ [Blk g1 26 [.string ⟨⟨[]⟩⟩, .slice none 0 0, .slice none 0 0, .slice none 0 0], Sl T_api_Class v0 o0, Sl T_api_Func v3 o1] := s21.f2.drop.f3.drop
   refine Bv (i := 0) rfl (by kernel_rfl) (by kernel_rfl) (by kernel_rfl) (fun _ hC => Ax Fx.fa26_3 rfl rfl) rfl rfl rfl F s22 fun _ F => ?_
   refine Bv (i := 2) rfl (by kernel_rfl) (by kernel_rfl) (by kernel_rfl) (fun _ hC => Af rfl) rfl rfl rfl F s22 fun _ F => ?_
   refine Cl (rs := [1, 3]) (by kernel_rfl) (by decide) (Bs (Br rfl ?_) (Bs (Br rfl ?_) (Co)))
   ·refine Bt F (Az Fx.nag24 rfl (s21.blk_cell (.tail _ <| .tail _ <| .head _) rfl)) rfl rfl rfl fun _ F => ?_
    have s24 : SL w [] _ [Blk g1 26 [.string ⟨⟨[]⟩⟩, .slice none 0 0, .slice none 0 0, .slice none 0 0], Sl T_api_Class v0 o0, Sl T_api_Func v3 o1] := s21.f2.drop.f3.drop
    refine Ar ⟨s24, ?_⟩
    refine Be (i := 3) rfl (by kernel_rfl) ?_
    refine Bk (args := [.tmp 38]) F Fx.fn11 rfl (slices_Clone_byte_byte_c (a0 := x4)   (hw.pass0 s21) hx) rfl fun vm wr _ hz F => ?_
    obtain ⟨_, rfl, h10⟩ := hz
    have s25 := s21.add h10
    have s26 : SL w [] _ [Blk g1 26 [.string ⟨⟨[]⟩⟩, .slice none 0 0, .slice none 0 0, .slice none 0 0], Sl T_api_Class v0 o0, Sl T_api_Func v3 o1] := s25.drop.f2.drop.f3.drop
    refine Ar ⟨s26, ?_⟩
    refine Be (i := 4) rfl (by kernel_rfl) ?_
    have h11 := (Bu (s25.own_rd (.head _)))
    have s27 : SL w [] _ (Dt (Ty.slice Ty.u8) x5 [vm] :: [Blk g1 26 [.string ⟨⟨[]⟩⟩, .slice none 0 0, .slice none 0 0, .slice none 0 0], Sl T_api_Class v0 o0, Blk g2 26 [.string ⟨⟨a0.Name⟩⟩, v0, v3, vk], Sl T_api_Func v3 o1, Sl (Ty.slice Ty.u8) vk s1z.1]) := (SL.dsl s25)
    refine Dh F s27 Fx.sl24 rfl (by decide) rfl (Ct h11) rfl fun vn ws _ F s28 => ?_
    have s29 : SL w [] _ [Blk g1 26 [.string ⟨⟨[]⟩⟩, .slice none 0 0, .slice none 0 0, .slice none 0 0], Sl T_api_Class v0 o0, Sl T_api_Func v3 o1] := s28.drop.f2.drop.f3.drop
    refine Ar ⟨s29, ?_⟩
    refine Be (i := 5) rfl (by kernel_rfl) ?_
    refine Dc F s28.f5 Fx.sl24 rfl rfl rfl rfl rfl rfl hy rfl fun vo wt _ F s2a => ?_
    have s2b : SL w [] _ [Blk g1 26 [.string ⟨⟨[]⟩⟩, .slice none 0 0, .slice none 0 0, .slice none 0 0], Sl T_api_Class v0 o0, Sl T_api_Func v3 o1] := s2a.drop.f2.drop
    refine Ar ⟨s2b, ?_⟩
    refine Be (i := 6) rfl (by kernel_rfl) ?_
    refine Bt F (Ax Fx.fa26_3 rfl rfl) rfl rfl rfl fun _ F => ?_
    have s2c : SL w [] _ [Blk g1 26 [.string ⟨⟨[]⟩⟩, .slice none 0 0, .slice none 0 0, .slice none 0 0], Sl T_api_Class v0 o0, Sl T_api_Func v3 o1] := s2a.drop.f2.drop
    refine Ar ⟨s2c, ?_⟩
    refine Be (i := 7) rfl (by kernel_rfl) ?_
    have s2d := s2a.f3
    refine Cq F s2d rfl rfl Fx.sz24 (Ct (Bu (s2d.own_rd (.tail _ <| .head _)))) (Cd (Bu (s2d.own_rd (.tail _ <| .head _)))) rfl fun wu _ F s2e => ?_
    replace s2e : SL w [] wu [Blk g2 26 [.string ⟨⟨a0.Name⟩⟩, v0, v3, vo], Sl (Ty.slice Ty.u8) vo x6, Blk g1 26 [.string ⟨⟨[]⟩⟩, .slice none 0 0, .slice none 0 0, .slice none 0 0], Sl T_api_Class v0 o0, Sl T_api_Func v3 o1] := s2e
    have s2f : SL w [] _ [Blk g1 26 [.string ⟨⟨[]⟩⟩, .slice none 0 0, .slice none 0 0, .slice none 0 0], Sl T_api_Class v0 o0, Sl T_api_Func v3 o1] := s2e.drop.drop
    refine Ar ⟨s2f, ?_⟩
    refine Ce (by kernel_rfl) ?_
    refine Bz <| Ac <| Ak <| Aj F (Aa (Bq rfl rfl) <| Aa (Af rfl) <| Ad) fun _ F => Ai ?_
    obtain rfl := An H
    refine Ac ?_
    exact ⟨_, rfl, vo, F.sub ⟨rfl, rfl, rfl, rfl, rfl, trivial⟩, s2e.f1.f4.f2.f4.f4⟩
   refine Bk (args := [.tmp 38]) F Fx.fn11 rfl (slices_Clone_byte_byte_c (a0 := x4)   (hw.pass0 s21) hx) rfl fun vp wv _ h12 F => ?_
   obtain ⟨_, rfl, h13⟩ := h12
   have s2g := s21.add h13
   have s2h : SL w [] _ [Blk g1 26 [.string ⟨⟨[]⟩⟩, .slice none 0 0, .slice none 0 0, .slice none 0 0], Sl T_api_Class v0 o0, Sl T_api_Func v3 o1] := s2g.drop.f2.drop.f3.drop
   refine Ar ⟨s2h, ?_⟩
   refine Cl (rs := [1, 4]) (by kernel_rfl) (by decide) (Bs (Br rfl ?_) (Bs (Br rfl ?_) (Co)))
   ·refine Bt F (Az Fx.nag24 rfl (s2g.blk_cell (.tail _ <| .tail _ <| .tail _ <| .head _) rfl)) rfl rfl rfl fun _ F => ?_
    have s2i : SL w [] _ [Blk g1 26 [.string ⟨⟨[]⟩⟩, .slice none 0 0, .slice none 0 0, .slice none 0 0], Sl T_api_Class v0 o0, Sl T_api_Func v3 o1] := s2g.drop.f2.drop.f3.drop
    refine Ar ⟨s2i, ?_⟩
    refine Be (i := 4) rfl (by kernel_rfl) ?_
    have h14 := (Bu (s2g.own_rd (.head _)))
    have s2j : SL w [] _ (Dt (Ty.slice Ty.u8) x5 [vp] :: [Blk g1 26 [.string ⟨⟨[]⟩⟩, .slice none 0 0, .slice none 0 0, .slice none 0 0], Sl T_api_Class v0 o0, Blk g2 26 [.string ⟨⟨a0.Name⟩⟩, v0, v3, vk], Sl T_api_Func v3 o1, Sl (Ty.slice Ty.u8) vk s1z.1]) := (SL.dsl s2g)
    refine Dh F s2j Fx.sl24 rfl (by decide) rfl (Ct h14) rfl fun vq ww _ F s2k => ?_
    have s2l : SL w [] _ [Blk g1 26 [.string ⟨⟨[]⟩⟩, .slice none 0 0, .slice none 0 0, .slice none 0 0], Sl T_api_Class v0 o0, Sl T_api_Func v3 o1] := s2k.drop.f2.drop.f3.drop
    refine Ar ⟨s2l, ?_⟩
    refine Be (i := 5) rfl (by kernel_rfl) ?_
    refine Dc F s2k.f5 Fx.sl24 rfl rfl rfl rfl rfl rfl hy rfl fun vr wx _ F s2m => ?_
    have s2n : SL w [] _ [Blk g1 26 [.string ⟨⟨[]⟩⟩, .slice none 0 0, .slice none 0 0, .slice none 0 0], Sl T_api_Class v0 o0, Sl T_api_Func v3 o1] := s2m.drop.f2.drop
    refine Ar ⟨s2n, ?_⟩
    refine Be (i := 6) rfl (by kernel_rfl) ?_
    refine Bt F (Ax Fx.fa26_3 rfl rfl) rfl rfl rfl fun _ F => ?_
    have s2o : SL w [] _ [Blk g1 26 [.string ⟨⟨[]⟩⟩, .slice none 0 0, .slice none 0 0, .slice none 0 0], Sl T_api_Class v0 o0, Sl T_api_Func v3 o1] := s2m.drop.f2.drop
    refine Ar ⟨s2o, ?_⟩
    refine Be (i := 7) rfl (by kernel_rfl) ?_
    have s2p := s2m.f3
    refine Cq F s2p rfl rfl Fx.sz24 (Ct (Bu (s2p.own_rd (.tail _ <| .head _)))) (Cd (Bu (s2p.own_rd (.tail _ <| .head _)))) rfl fun wy _ F s2q => ?_
    replace s2q : SL w [] wy [Blk g2 26 [.string ⟨⟨a0.Name⟩⟩, v0, v3, vr], Sl (Ty.slice Ty.u8) vr x6, Blk g1 26 [.string ⟨⟨[]⟩⟩, .slice none 0 0, .slice none 0 0, .slice none 0 0], Sl T_api_Class v0 o0, Sl T_api_Func v3 o1] := s2q
    have s2r : SL w [] _ [Blk g1 26 [.string ⟨⟨[]⟩⟩, .slice none 0 0, .slice none 0 0, .slice none 0 0], Sl T_api_Class v0 o0, Sl T_api_Func v3 o1] := s2q.drop.drop
    refine Ar ⟨s2r, ?_⟩
    refine Ce (by kernel_rfl) ?_
    refine Bz <| Ac <| Ak <| Aj F (Aa (Bq rfl rfl) <| Aa (Af rfl) <| Ad) fun _ F => Ai ?_
    obtain rfl := An H
    refine Ac ?_
    exact ⟨_, rfl, vr, F.sub ⟨rfl, rfl, rfl, rfl, rfl, trivial⟩, s2q.f1.f4.f2.f4.f4⟩
   have h15 := (Bu (s2g.own_rd (.head _)))
   have s2s : SL w [] _ (Dt (Ty.slice Ty.u8) x5 [vp] :: [Blk g1 26 [.string ⟨⟨[]⟩⟩, .slice none 0 0, .slice none 0 0, .slice none 0 0], Sl T_api_Class v0 o0, Blk g2 26 [.string ⟨⟨a0.Name⟩⟩, v0, v3, vk], Sl T_api_Func v3 o1, Sl (Ty.slice Ty.u8) vk s1z.1]) := (SL.dsl s2g)
   refine Dh F s2s Fx.sl24 rfl (by decide) rfl (Ct h15) rfl fun vt wz _ F s2t => ?_
   have s2u : SL w [] _ [Blk g1 26 [.string ⟨⟨[]⟩⟩, .slice none 0 0, .slice none 0 0, .slice none 0 0], Sl T_api_Class v0 o0, Sl T_api_Func v3 o1] := s2t.drop.f2.drop.f3.drop
   refine Ar ⟨s2u, ?_⟩
   refine Be (i := 1) rfl (by kernel_rfl) ?_
   refine Bt F (Az Fx.nag24 rfl (s2t.blk_cell (.tail _ <| .tail _ <| .tail _ <| .head _) rfl)) rfl rfl rfl fun _ F => ?_
   have s2v : SL w [] _ [Blk g1 26 [.string ⟨⟨[]⟩⟩, .slice none 0 0, .slice none 0 0, .slice none 0 0], Sl T_api_Class v0 o0, Sl T_api_Func v3 o1] := s2t.drop.f2.drop.f3.drop
   refine Ar ⟨s2v, ?_⟩
   refine Be (i := 5) rfl (by kernel_rfl) ?_
   refine Dc F s2t.f5 Fx.sl24 rfl rfl rfl rfl rfl rfl hy rfl fun vu w10 _ F s2w => ?_
   have s2x : SL w [] _ [Blk g1 26 [.string ⟨⟨[]⟩⟩, .slice none 0 0, .slice none 0 0, .slice none 0 0], Sl T_api_Class v0 o0, Sl T_api_Func v3 o1] := s2w.drop.f2.drop
   refine Ar ⟨s2x, ?_⟩
   refine Be (i := 6) rfl (by kernel_rfl) ?_
   refine Bt F (Ax Fx.fa26_3 rfl rfl) rfl rfl rfl fun _ F => ?_
   have s2y : SL w [] _ [Blk g1 26 [.string ⟨⟨[]⟩⟩, .slice none 0 0, .slice none 0 0, .slice none 0 0], Sl T_api_Class v0 o0, Sl T_api_Func v3 o1] := s2w.drop.f2.drop
   refine Ar ⟨s2y, ?_⟩
   refine Be (i := 7) rfl (by kernel_rfl) ?_
   have s2z := s2w.f3
   refine Cq F s2z rfl rfl Fx.sz24 (Ct (Bu (s2z.own_rd (.tail _ <| .head _)))) (Cd (Bu (s2z.own_rd (.tail _ <| .head _)))) rfl fun w11 _ F s30 => ?_
   replace s30 : SL w [] w11 [Blk g2 26 [.string ⟨⟨a0.Name⟩⟩, v0, v3, vu], Sl (Ty.slice Ty.u8) vu x6, Blk g1 26 [.string ⟨⟨[]⟩⟩, .slice none 0 0, .slice none 0 0, .slice none 0 0], Sl T_api_Class v0 o0, Sl T_api_Func v3 o1] := s30
   have s31 : SL w [] _ [Blk g1 26 [.string ⟨⟨[]⟩⟩, .slice none 0 0, .slice none 0 0, .slice none 0 0], Sl T_api_Class v0 o0, Sl T_api_Func v3 o1] := s30.drop.drop
   refine Ar ⟨s31, ?_⟩
   refine Ce (by kernel_rfl) ?_
   refine Bz <| Ac <| Ak <| Aj F (Aa (Bq rfl rfl) <| Aa (Af rfl) <| Ad) fun _ F => Ai ?_
   obtain rfl := An H
   refine Ac ?_
   exact ⟨_, rfl, vu, F.sub ⟨rfl, rfl, rfl, rfl, rfl, trivial⟩, s30.f1.f4.f2.f4.f4⟩
  replace H := Bc ho H
  refine Ca <| Bp <| Bp <| Cb ?_
  obtain rfl := An H
  obtain rfl := hr _ rfl
  refine Ac ?_
  exact ⟨vk, F.sub ⟨rfl, rfl, trivial⟩, s20⟩
 intro _ w12 hJ
 obtain ⟨vj, F, s32⟩ := hJ
 have H := R2
 clear R2 H2
 refine Ac <| Ah <| Ak <| Aj F (Aa (Bj Fx.agg26 rfl (s32.blk_cells (.tail _ <| .tail _ <| .head _) (o := 0) (ds := [.string ⟨⟨a0.Name⟩⟩, v0, v3, vj]) (fun j u hu => by rw [Nat.zero_add]; exact hu)) rfl) <| Ad) fun _ F => ?_
 have s33 := s32
 refine As F s33 rfl rfl Fx.sz26 (Ae rfl (Ae (Cd (Bu (s33.own_rd (.tail _ <| .head _)))) (Ae (Cd (Bu (s33.own_rd (.tail _ <| .tail _ <| .tail _ <| .head _)))) (Ae (Cd (Bu (s33.own_rd (.tail _ <| .tail _ <| .tail _ <| .tail _ <| .head _)))) Ba)))) (Ag rfl) fun w13 _ F s34 => ?_
 replace s34 : SL w [] w13 [Blk g1 26 [.string ⟨⟨a0.Name⟩⟩, v0, v3, vj], Sl T_api_Class v0 o0, Blk g2 26 [.string ⟨⟨a0.Name⟩⟩, v0, v3, vj], Sl T_api_Func v3 o1, Sl (Ty.slice Ty.u8) vj o3] := s34
 refine Ai <| Ac ?_
 obtain rfl := An H
 refine Bd ?_
 refine Av (rs := [.cell 2 26]) (vs := [.agg ⟨[.string ⟨⟨a0.Name⟩⟩, v0, v3, vj]⟩]) F (by rfl) ⟨_, _, rfl, Cj s34 (.head _) rfl Fx.agg26 rfl, rfl⟩ ⟨_, rfl, ⟨v0, v3, vj, rfl, s34.drop.f1.drop⟩⟩
-- proviso/code.widths
theorem code_widths_c {w : World} {a0 : UInt8} {r : Int × Int}  (H : code_widths a0 = some r) :
    Calls Tryz.prog 57 #[.int .u8 (a0.toNat : Int)] w (Ret fun u_ w_ => u_ = .tuple ⟨[.int .i64 r.1, .int .i64 r.2]⟩ ∧ SL w [] w_ []) := by
 have s0 : SL w [] w [] := SL.init0 w
 refine Bn Tryz.func57 rfl Tryz.ntmps57 (Ag rfl) (args := [.int .u8 (a0.toNat : Int)]) fun q0 F0 => ?_
 unfold code_widths at H
 refine Ah <| Ak <| Aj F0 (Aa (Al rfl) <| Aa (Al rfl) <| Ad) fun q3 F4 => Ai <| Ac <| Ah <| Ah <| Ak <| Aj F4 (Aa (Af rfl) <| Ad) fun _ F => Ai <| Ac <| Bh <| Ah <| Bh <| Bh <| Ah <| Bh <| Ah <| Bh <| Ah <| Bh <| Ah <| Ah <| Ah <| Ak <| Aj F (Aa (Bw rfl rfl) <| Aa (Al rfl) <| Ad) fun _ F => Ai <| Ac <| Bm F rfl (fun h0 => ?_) (fun h0 => ?_)
 ·replace H := Bb h0 H
  refine Ca <| Bp <| Bp <| Cb <| Ac <| Ah <| Ah <| Ak <| Aj F (Aa (Al rfl) <| Aa (Al rfl) <| Ad) fun _ F => Ai <| Ac ?_
  obtain rfl := An H
  refine Bd <| Bg <| blk_r <| Bg <| blk_r <| Bg <| blk_r <| blk_r <| Bg <| blk_r <| Bg ?_
  refine Av (rs := [.tmp 2, .tmp 3]) (vs := [.int .i64 4, .int .i64 0]) F (by rfl) ⟨_, _, rfl, Ay rfl, _, _, rfl, Ay rfl, rfl⟩ ⟨_, rfl, ⟨rfl, s0⟩⟩
 replace H := Bc h0 H
 refine Aw <| Ac <| Ah <| Ah ?_
 obtain ⟨o0, H0, R0⟩ := Ap H
 clear H
 refine Bx (fun a w_ => Fr a 23 [(4, .int .u8 (a0.toNat : Int)), (7, .bool o0)] ∧ SL w [] w_ []) ?_ ?_
 ·have H := H0
  refine Ah <| Ak <| Aj F (Aa (Bw rfl rfl) <| Aa (Al rfl) <| Ad) fun _ F => Ai <| Ac <| Bm F rfl (fun h1 => ?_) (fun h1 => ?_)
  ·replace H := Bb h1 H
   refine Aw ?_
   obtain rfl := An H
   refine Ac ?_
   exact ⟨F.sub ⟨rfl, rfl, trivial⟩, s0⟩
  replace H := Bc h1 H
  refine Ak <| Aj F (Aa (Bw rfl rfl) <| Aa (Al rfl) <| Ad) fun _ F => Ai ?_
  obtain rfl := An H
  refine Ac ?_
  exact ⟨F.sub ⟨rfl, rfl, trivial⟩, s0⟩
 intro _ w0 hJ
 obtain ⟨F, s1⟩ := hJ
 have H := R0
 clear R0 H0
 refine Ac <| Bm F rfl (fun h2 => ?_) (fun h2 => ?_)
 ·replace H := Bb h2 H
  refine Ca <| Bp <| Bp <| Dd rfl <| Bp <| Cb <| Ac <| Ah <| Ah <| Ak <| Aj F (Aa (Al rfl) <| Aa (Al rfl) <| Ad) fun _ F => Ai <| Ac ?_
  obtain rfl := An H
  refine Bd <| Bg <| blk_r <| Bg <| blk_r <| blk_r <| Bg <| blk_r <| Bg ?_
  refine Av (rs := [.tmp 2, .tmp 3]) (vs := [.int .i64 2, .int .i64 0]) F (by rfl) ⟨_, _, rfl, Ay rfl, _, _, rfl, Ay rfl, rfl⟩ ⟨_, rfl, ⟨rfl, s1⟩⟩
 replace H := Bc h2 H
 refine Aw <| Ac <| Ah <| Ah ?_
 obtain ⟨o1, H1, R1⟩ := Ap H
 clear H
 refine Bx (fun a w_ => Fr a 23 [(4, .int .u8 (a0.toNat : Int)), (10, .bool o1)] ∧ SL w [] w_ []) ?_ ?_
 ·have H := H1
  refine Ah <| Ak <| Aj F (Aa (Bw rfl rfl) <| Aa (Al rfl) <| Ad) fun _ F => Ai <| Ac <| Bm F rfl (fun h3 => ?_) (fun h3 => ?_)
  ·replace H := Bb h3 H
   refine Aw ?_
   obtain rfl := An H
   refine Ac ?_
   exact ⟨F.sub ⟨rfl, rfl, trivial⟩, s1⟩
  replace H := Bc h3 H
  refine Ak <| Aj F (Aa (Bw rfl rfl) <| Aa (Al rfl) <| Ad) fun _ F => Ai ?_
  obtain rfl := An H
  refine Ac ?_
  exact ⟨F.sub ⟨rfl, rfl, trivial⟩, s1⟩
 intro _ w1 hJ
 obtain ⟨F, s2⟩ := hJ
 have H := R1
 clear R1 H1
 refine Ac <| Bm F rfl (fun h4 => ?_) (fun h4 => ?_)
 ·replace H := Bb h4 H
  refine Ca <| Bp <| Bp <| Dd rfl <| Bp <| Dd rfl <| Bp <| Cb <| Ac <| Ah <| Ah <| Ak <| Aj F (Aa (Al rfl) <| Aa (Al rfl) <| Ad) fun _ F => Ai <| Ac ?_
  obtain rfl := An H
  refine Bd <| Bg <| blk_r <| blk_r <| Bg <| blk_r <| Bg ?_
  refine Av (rs := [.tmp 2, .tmp 3]) (vs := [.int .i64 1, .int .i64 1]) F (by rfl) ⟨_, _, rfl, Ay rfl, _, _, rfl, Ay rfl, rfl⟩ ⟨_, rfl, ⟨rfl, s2⟩⟩
 replace H := Bc h4 H
 refine Aw <| Ac <| Ah <| Ah ?_
 obtain ⟨o2, H2, R2⟩ := Ap H
 clear H
 refine Bx (fun a w_ => Fr a 23 [(4, .int .u8 (a0.toNat : Int)), (13, .bool o2)] ∧ SL w [] w_ []) ?_ ?_
 ·have H := H2
  refine Ah <| Ak <| Aj F (Aa (Bw rfl rfl) <| Aa (Al rfl) <| Ad) fun _ F => Ai <| Ac <| Bm F rfl (fun h5 => ?_) (fun h5 => ?_)
  ·replace H := Bb h5 H
   refine Aw ?_
   obtain rfl := An H
   refine Ac ?_
   exact ⟨F.sub ⟨rfl, rfl, trivial⟩, s2⟩
  replace H := Bc h5 H
  refine Ah <| Ak <| Aj F (Aa (Bw rfl rfl) <| Aa (Al rfl) <| Ad) fun _ F => Ai <| Ac <| Bm F rfl (fun h6 => ?_) (fun h6 => ?_)
  ·replace H := Bb h6 H
   refine Aw ?_
   obtain rfl := An H
   refine Ac ?_
   exact ⟨F.sub ⟨rfl, rfl, trivial⟩, s2⟩
  replace H := Bc h6 H
  refine Ak <| Aj F (Aa (Bw rfl rfl) <| Aa (Al rfl) <| Ad) fun _ F => Ai ?_
  obtain rfl := An H
  refine Ac ?_
  exact ⟨F.sub ⟨rfl, rfl, trivial⟩, s2⟩
 intro _ w2 hJ
 obtain ⟨F, s3⟩ := hJ
 have H := R2
 clear R2 H2
 refine Ac <| Bm F rfl (fun h7 => ?_) (fun h7 => ?_)
 ·replace H := Bb h7 H
  refine Ca <| Bp <| Bp <| Dd rfl <| Bp <| Dd rfl <| Bp <| Dd rfl <| Bp <| Cb <| Bz <| Ac <| Ah <| Ah <| Ak <| Aj F (Aa (Al rfl) <| Aa (Al rfl) <| Ad) fun _ F => Ai <| Ac ?_
  obtain rfl := An H
  refine Bd <| Bg <| blk_r <| Bg ?_
  refine Av (rs := [.tmp 2, .tmp 3]) (vs := [.int .i64 1, .int .i64 0]) F (by rfl) ⟨_, _, rfl, Ay rfl, _, _, rfl, Ay rfl, rfl⟩ ⟨_, rfl, ⟨rfl, s3⟩⟩
 replace H := Bc h7 H
 refine Aw <| Ac <| Ah ?_
 obtain ⟨o3, H3, R3⟩ := Ap H
 clear H
 refine Bx (fun a w_ => Fr a 23 [(17, .bool o3)] ∧ SL w [] w_ []) ?_ ?_
 ·have H := H3
  refine Ah <| Ak <| Aj F (Aa (Bw rfl rfl) <| Aa (Al rfl) <| Ad) fun _ F => Ai <| Ac <| Bm F rfl (fun h8 => ?_) (fun h8 => ?_)
  ·replace H := Bb h8 H
   refine Aw ?_
   obtain rfl := An H
   refine Ac ?_
   exact ⟨F.sub ⟨rfl, trivial⟩, s3⟩
  replace H := Bc h8 H
  refine Ah <| Ak <| Aj F (Aa (Bw rfl rfl) <| Aa (Al rfl) <| Ad) fun _ F => Ai <| Ac <| Bm F rfl (fun h9 => ?_) (fun h9 => ?_)
  ·replace H := Bb h9 H
   refine Aw ?_
   obtain rfl := An H
   refine Ac ?_
   exact ⟨F.sub ⟨rfl, trivial⟩, s3⟩
  replace H := Bc h9 H
  refine Ah <| Ak <| Aj F (Aa (Bw rfl rfl) <| Aa (Al rfl) <| Ad) fun _ F => Ai <| Ac <| Bm F rfl (fun ha => ?_) (fun ha => ?_)
  ·replace H := Bb ha H
   refine Aw ?_
   obtain rfl := An H
   refine Ac ?_
   exact ⟨F.sub ⟨rfl, trivial⟩, s3⟩
  replace H := Bc ha H
  refine Ah <| Ak <| Aj F (Aa (Bw rfl rfl) <| Aa (Al rfl) <| Ad) fun _ F => Ai <| Ac <| Bm F rfl (fun hb => ?_) (fun hb => ?_)
  ·replace H := Bb hb H
   refine Aw ?_
   obtain rfl := An H
   refine Ac ?_
   exact ⟨F.sub ⟨rfl, trivial⟩, s3⟩
  replace H := Bc hb H
  refine Ak <| Aj F (Aa (Bw rfl rfl) <| Aa (Al rfl) <| Ad) fun _ F => Ai ?_
  obtain rfl := An H
  refine Ac ?_
  exact ⟨F.sub ⟨rfl, trivial⟩, s3⟩
 intro _ w3 hJ
 obtain ⟨F, s4⟩ := hJ
 have H := R3
 clear R3 H3
 refine Ac <| Bm F rfl (fun hc => ?_) (fun hc => ?_)
 ·replace H := Bb hc H
  refine Ca <| Bp <| Dd rfl <| Bp <| Dd rfl <| Bp <| Dd rfl <| Bp <| Dd rfl <| Cb <| Ac <| Ah <| Ah <| Ak <| Aj F (Aa (Al rfl) <| Aa (Al rfl) <| Ad) fun _ F => Ai <| Ac ?_
  obtain rfl := An H
  refine Bd <| Bg <| blk_r <| Bg ?_
  refine Av (rs := [.tmp 2, .tmp 3]) (vs := [.int .i64 1, .int .i64 0]) F (by rfl) ⟨_, _, rfl, Ay rfl, _, _, rfl, Ay rfl, rfl⟩ ⟨_, rfl, ⟨rfl, s4⟩⟩
 replace H := Bc hc H
 refine Aw <| Ac <| Ca <| Dd rfl <| Bp <| Dd rfl <| Bp <| Dd rfl <| Bp <| Dd rfl <| Dd rfl <| Bp <| Cb <| Ac <| Ah <| Ak <| Aj F (Aa (Al rfl) <| Aa (Al rfl) <| Ad) fun _ F => Ai <| Ac ?_
 obtain rfl := An H
 refine Bd ?_
 refine Av (rs := [.tmp 2, .tmp 3]) (vs := [.int .i64 0, .int .i64 0]) F (by rfl) ⟨_, _, rfl, Ay rfl, _, _, rfl, Ay rfl, rfl⟩ ⟨_, rfl, ⟨rfl, s4⟩⟩
-- proviso/code.Size
theorem code_Size_c {w : World} {a0 : UInt8} {r : Int}  (H : code_Size a0 = some r) :
    Calls Tryz.prog 38 #[.int .u8 (a0.toNat : Int)] w (Ret fun u_ w_ => u_ = .int .i64 r ∧ SL w [] w_ []) := by
 have s0 : SL w [] w [] := SL.init0 w
 refine Bn Tryz.func38 rfl Tryz.ntmps38 (Ag rfl) (args := [.int .u8 (a0.toNat : Int)]) fun q0 F0 => ?_
 unfold code_Size at H
 refine Ah <| Ak <| Aj F0 (Aa (Al rfl) <| Ad) fun q3 F4 => Ai <| Ac <| Ah <| Ah <| Ak <| Aj F4 (Aa (Af rfl) <| Aa (ex_ge rfl rfl) <| Ad) fun _ F => Ai <| Ac <| Bm F rfl (fun h0 => ?_) (fun h0 => ?_)
 ·replace H := Bb h0 H
  refine Ah <| Ak <| Aj F (Aa (Al rfl) <| Ad) fun _ F => Ai <| Ac ?_
  obtain rfl := An H
  refine Bd <| Bg ?_
  refine Av (rs := [.tmp 2]) (vs := [.int .i64 0]) F (by rfl) ⟨_, _, rfl, Ay rfl, rfl⟩ ⟨_, rfl, ⟨rfl, s0⟩⟩
 replace H := Bc h0 H
 refine Aw <| Ac <| Ah <| Ak ?_
 obtain ⟨x0, h1, H⟩ := Ap H
 refine Aj F (Aa (Af rfl) <| Ad) fun _ F => Bk (args := [.tmp 8]) F Fx.fn57 rfl (code_widths_c (a0 := a0)    h1) rfl fun v0 w0 _ h2 F => ?_
 obtain ⟨rfl, h3⟩ := h2
 have s1 := s0.add h3
 refine Aj F (Aa (Af rfl) <| Aa (Au (v := .int .i64 x0.1) rfl rfl) <| Aa (Au (v := .int .i64 x0.2) rfl rfl) <| Aa (Al rfl) <| Aa (Al rfl) <| Ad) fun _ F => Ai <| Ac <| Ah <| Ak <| Aj F (Aa (Af rfl) <| Aa (Bq rfl rfl) <| Aa (Af rfl) <| Aa (Bq rfl rfl) <| Aa (Al rfl) <| Ad) fun _ F => Ai <| Ac ?_
 obtain rfl := An H
 refine Bd ?_
 refine Av (rs := [.tmp 2]) (vs := [.int .i64 (wr ((wr (1 + x0.1)) + x0.2))]) F (by rfl) ⟨_, _, rfl, Ay rfl, rfl⟩ ⟨_, rfl, ⟨rfl, s1⟩⟩
-- proviso/code.Decode$1
theorem code_Decode_1_s0_c {w : World} {FF : List Nat} {g1 : Nat} {v1_0 : Value} {a0 : Int} {a1 : List UInt8} {r : Int × (List UInt8)} (hst : Star [Blk g1 38 [v1_0]] w FF) (hr1_0 : Rd Ty.u8 w FF v1_0 a1) (H : code_Decode_1_s0 a0 a1 = some r) :
    Calls Tryz.prog 70 #[.int .i64 a0, .pointer (some ⟨g1, 0, none⟩)] w (Ret fun u_ w_ => ∃ u0 : Value, u_ = .int .i64 r.1 ∧ View Ty.u8 v1_0 a1 u0 r.2 ∧ SL w FF w_ [Blk g1 38 [u0]]) := by
 have s0 : SL w FF w [Blk g1 38 [v1_0]] := SL.init w FF hst
 refine Bn Tryz.func70 rfl Tryz.ntmps70 (Ag rfl) (args := [.int .i64 a0, .pointer (some ⟨g1, 0, none⟩)]) fun q0 F0 => ?_
 unfold code_Decode_1_s0 at H
 refine Ah <| Ak <| Aj F0 (Aa (Al rfl) <| Ad) fun q3 F4 => Ai <| Ac <| Ah <| Ak <| Aj F4 (Aa (Al rfl) <| Ad) fun q7 F8 => Ai <| Ac <| Ah <| Ah <| Ak ?_
 obtain ⟨x0, h0, H⟩ := Ap H
 obtain ⟨v0, h1, h2⟩ := cut_view (Cv hr1_0 s0) Fx.sl38 rfl h0 none (some a0) (.inr ⟨rfl, rfl⟩) (.inl rfl)
 have h3 := View.refl.trans h2
 have h4 := View.rd h2 hr1_0
 refine Aj F8 (Aa (Az Fx.nag38 rfl (s0.blk_cell (.head _) rfl)) <| Aa (Af rfl) <| Aa (h1 _ _ _ _ _ .i64 .i64 _ _ _ _ _ rfl trivial rfl) <| Aa (Cc rfl Tryz.underlying38 (Bu (Cv h4 s0))) <| Aa (Af rfl) <| Ad) fun _ F => Ai <| Ac ?_
 obtain ⟨o0, H0, R0⟩ := Ap H
 clear H
 refine Bx (fun a w_ => Fr a 30 [(0, .int .i64 a0), (1, .pointer (some ⟨g1, 0, none⟩)), (4, .int .i64 o0)] ∧ SL w FF w_ [Blk g1 38 [v1_0]]) ?_ ?_
 ·have H := H0
  refine Bh <| Cu (code_Decode_1_s0_b0 x0) (fun s1 a w_ => Fr a 30 [(0, .int .i64 a0), (1, .pointer (some ⟨g1, 0, none⟩)), (4, .int .i64 s1.1), (9, v0), (10, .int .i64 (x0.length : Int)), (11, .int .i64 s1.2)] ∧ SL w FF w_ [Blk g1 38 [v1_0]]) H ?_ ?_
  ·exact ⟨F.sub ⟨rfl, rfl, rfl, rfl, rfl, rfl, trivial⟩, s0⟩
  intro s1 _ w0 h5 o1 H hr
  obtain ⟨F, s2⟩ := h5
  replace H : code_Decode_1_s0_b0 x0 s1 = some o1 := H
  unfold code_Decode_1_s0_b0 at H
  refine Ah <| Ak <| Aj F (Aa (Cr rfl rfl) <| Ad) fun _ F => Ai <| Ac <| Ah <| Bm F rfl (fun h6 => ?_) (fun h6 => ?_)
  ·replace H := Bb h6 H
   refine Aw <| Ac <| Ah <| Bh <| Ah <| Ak ?_
   obtain ⟨x1, h7, H⟩ := Ap H
   obtain ⟨a2, h8, h9⟩ := Dg Flat.u8 (Cv h4 s2) Fx.sl38 rfl h7
   refine Aj F (Aa (h8 _ _ _ _ _ _ _ _ _ _ rfl rfl) <| Aa (Az Fx.nag5 rfl (Cells.at_ h9 (o := 0) rfl)) <| Aa (Al rfl) <| Ad) fun _ F => Ai <| Ac <| Ak <| Aj F (Aa (Af rfl) <| Aa (ex_shl rfl rfl rfl) <| Aa (Af rfl) <| Aa (ex_cv864 rfl Tryz.underlying5 Tryz.underlying3) <| Aa (ex_or rfl rfl) <| Aa (Al rfl) <| Ad) fun _ F => Ai <| Bz <| Ac <| Ak <| Aj F (Aa (Bq rfl rfl) <| Aa (Af rfl) <| Ad) fun _ F => Ai ?_
   obtain rfl := An H
   refine Ac ?_
   exact ⟨_, rfl, F.sub ⟨rfl, rfl, rfl, rfl, rfl, rfl, trivial⟩, s2⟩
  replace H := Bc h6 H
  refine Ca <| Bp <| Bp <| Cb ?_
  obtain rfl := An H
  obtain rfl := hr _ rfl
  refine Ac ?_
  exact ⟨F.sub ⟨rfl, rfl, rfl, trivial⟩, s2⟩
 intro _ w1 hJ
 obtain ⟨F, s3⟩ := hJ
 have H := R0
 clear R0 H0
 refine Ac <| Ah <| Ak ?_
 obtain ⟨x2, ha, H⟩ := Ap H
 obtain ⟨v1, hb, hc⟩ := cut_view (Cv hr1_0 s3) Fx.sl38 rfl ha (some a0) none (.inl rfl) (.inr ⟨rfl, rfl⟩)
 have hd := View.refl.trans hc
 have he := View.rd hc hr1_0
 refine Aj F (Aa (Az Fx.nag38 rfl (s3.blk_cell (.head _) rfl)) <| Aa (Af rfl) <| Aa (hb _ _ _ _ _ .i64 .i64 _ _ _ _ _ rfl rfl trivial) <| Ad) fun _ F => ?_
 have s4 := s3
 refine Cq F s4 rfl rfl Fx.sz38 (Ct (Bu (Cv he s4))) (Cd (Bu (Cv he s4))) rfl fun w2 _ F s5 => ?_
 replace s5 : SL w FF w2 [Blk g1 38 [v1]] := s5
 refine Ai <| Ac <| Ah <| Ah <| Ak <| Aj F (Aa (Af rfl) <| Aa (Bw rfl rfl) <| Ad) fun _ F => Ai <| Ac <| Bm F rfl (fun hf => ?_) (fun hf => ?_)
 ·replace H := Bb hf H
  refine Ah <| Ak <| Aj F (Aa (Af rfl) <| Aa (ex_conv rfl Tryz.underlying3 Tryz.underlying21) <| Aa (ex_conv rfl Tryz.underlying21 Tryz.underlying3) <| Aa (Al rfl) <| Ad) fun _ F => Ai <| Ac ?_
  obtain rfl := An H
  refine Bd <| Bg ?_
  refine Av (rs := [.tmp 3]) (vs := [.int .i64 (wr (IntKind.i32.wrap o0))]) F (by rfl) ⟨_, _, rfl, Ay rfl, rfl⟩ ⟨_, rfl, ⟨v1, rfl, hd, s5⟩⟩
 replace H := Bc hf H
 refine Aw <| Ac <| Ah <| Ak <| Aj F (Aa (Af rfl) <| Aa (Al rfl) <| Ad) fun _ F => Ai <| Ac ?_
 obtain rfl := An H
 refine Bd ?_
 refine Av (rs := [.tmp 3]) (vs := [.int .i64 o0]) F (by rfl) ⟨_, _, rfl, Ay rfl, rfl⟩ ⟨_, rfl, ⟨v1, rfl, hd, s5⟩⟩
-- proviso/code.Decode
theorem code_Decode_c {w : World} {v0 : Value} {a0 : List UInt8} {a1 : Int} {r : S_api_Instr × Int} (hr0 : Rd Ty.u8 w [] v0 a0) (H : code_Decode a0 a1 = some r) :
    Calls Tryz.prog 49 #[v0, .int .i64 a1] w (Ret fun u_ w_ => u_ = .tuple ⟨[.agg ⟨[.int .i64 r.1.At, .int .u8 (r.1.Op.toNat : Int), .int .i64 r.1.A, .int .i64 r.1.B]⟩, .int .i64 r.2]⟩ ∧ SL w [] w_ []) := by
 have s0 : SL w [] w [] := SL.init0 w
 refine Bn Tryz.func49 rfl Tryz.ntmps49 (Ag rfl) (args := [v0, .int .i64 a1]) fun q0 F0 => ?_
 unfold code_Decode at H
 refine Ah <| Ak <| Bo F0 s0 Fx.zero79 rfl rfl fun g9 w0 _ F s1 => Aj F (Aa (Al rfl) <| Ad) fun _ F => Ai <| Ac <| Ah <| Ak <| Aj F (Aa (Cn (vs := []) Fx.zero79 Fx.pl79 rfl (cs := [.int .i64 0, .int .u8 0, .int .i64 0, .int .i64 0]) (rfl)) <| Ad) fun _ F => Bo F s1 Fx.zero79 rfl rfl fun g32 w1 _ F s2 => ?_
 have s3 := s2
 refine As F s3 rfl rfl Fx.sz79 (Ae rfl (Ae rfl (Ae rfl (Ae rfl Ba)))) (Ag rfl) fun w2 _ F s4 => ?_
 replace s4 : SL w [] w2 [Blk g32 79 [.int .i64 0, .int .u8 0, .int .i64 0, .int .i64 0], Blk g9 79 [.int .i64 0, .int .u8 0, .int .i64 0, .int .i64 0]] := s4
 refine Ai <| Ac <| Ah <| Bh <| Ah <| Ak <| Aj F (Aa (Af rfl) <| Aa (Cr rfl rfl) <| Aa (Af rfl) <| Ad) fun _ F => Bl (decide (a1 < 0)) (fun h0 => ?_) (fun h0 => ?_)
 ·replace H := Bb h0 H
  refine Ao F rfl rfl (Am rfl h0) Ab rfl rfl fun _ F => Ao F rfl rfl (Am rfl h0) Ab rfl rfl fun _ F => Ao F rfl rfl (Am rfl h0) Ab rfl rfl fun _ F => Ao F rfl rfl (Am rfl h0) Ab rfl rfl fun _ F => Aj F (Aa (Bf (By rfl h0) rfl) <| Aa (Al rfl) <| Ad) fun _ F => Ai <| Ac <| Cz F rfl <| Ah <| Ak <| Aj F (Aa (Bj Fx.agg79 rfl (s4.blk_cells (.head _) (o := 0) (ds := [.int .i64 0, .int .u8 0, .int .i64 0, .int .i64 0]) (fun j u hu => by rw [Nat.zero_add]; exact hu)) rfl) <| Ad) fun _ F => ?_
  have s5 := s4.f1
  refine As F s5 rfl rfl Fx.sz79 (Ae rfl (Ae rfl (Ae rfl (Ae rfl Ba)))) (Ag rfl) fun w3 _ F s6 => ?_
  replace s6 : SL w [] w3 [Blk g9 79 [.int .i64 0, .int .u8 0, .int .i64 0, .int .i64 0], Blk g32 79 [.int .i64 0, .int .u8 0, .int .i64 0, .int .i64 0]] := s6
  refine Aj F (Aa (Al rfl) <| Ad) fun _ F => Ai <| Ac ?_
  obtain rfl := An H
  refine Bd <| blk_r <| Bg ?_
  refine Av (rs := [.cell 4 79, .tmp 5]) (vs := [.agg ⟨[.int .i64 0, .int .u8 0, .int .i64 0, .int .i64 0]⟩, .int .i64 1]) F (by rfl) ⟨_, _, rfl, Cj s6 (.head _) rfl Fx.agg79 rfl, _, _, rfl, Ay rfl, rfl⟩ ⟨_, rfl, ⟨rfl, s6.drop.drop⟩⟩
 replace H := Bc h0 H
 refine Aq F rfl rfl (Am rfl h0) (Af rfl) rfl rfl fun _ F => Aq F rfl rfl (Am rfl h0) (Af rfl) rfl rfl fun _ F => Aq F rfl rfl (Am rfl h0) (Cc rfl Tryz.underlying38 (Bu (Cv hr0 s4))) rfl rfl fun _ F => Aq F rfl rfl (Am rfl h0) (ex_gt rfl rfl) rfl rfl fun _ F => Aj F (Aa (Bi (By rfl h0) rfl) <| Aa (Al rfl) <| Ad) fun _ F => Ai <| Ac <| Bm F rfl (fun h1 => ?_) (fun h1 => ?_)
 ·replace H := Bb h1 H
  refine Ah <| Ak <| Aj F (Aa (Bj Fx.agg79 rfl (s4.blk_cells (.head _) (o := 0) (ds := [.int .i64 0, .int .u8 0, .int .i64 0, .int .i64 0]) (fun j u hu => by rw [Nat.zero_add]; exact hu)) rfl) <| Ad) fun _ F => ?_
  have s7 := s4.f1
  refine As F s7 rfl rfl Fx.sz79 (Ae rfl (Ae rfl (Ae rfl (Ae rfl Ba)))) (Ag rfl) fun w4 _ F s8 => ?_
  replace s8 : SL w [] w4 [Blk g9 79 [.int .i64 0, .int .u8 0, .int .i64 0, .int .i64 0], Blk g32 79 [.int .i64 0, .int .u8 0, .int .i64 0, .int .i64 0]] := s8
  refine Aj F (Aa (Al rfl) <| Ad) fun _ F => Ai <| Ac ?_
  obtain rfl := An H
  refine Bd <| blk_r <| Bg ?_
  refine Av (rs := [.cell 4 79, .tmp 5]) (vs := [.agg ⟨[.int .i64 0, .int .u8 0, .int .i64 0, .int .i64 0]⟩, .int .i64 1]) F (by rfl) ⟨_, _, rfl, Cj s8 (.head _) rfl Fx.agg79 rfl, _, _, rfl, Ay rfl, rfl⟩ ⟨_, rfl, ⟨rfl, s8.drop.drop⟩⟩
 replace H := Bc h1 H
 refine Ah <| Ak <| Aj F (Aa (Af rfl) <| Aa (Af rfl) <| Aa (Cc rfl Tryz.underlying38 (Bu (Cv hr0 s4))) <| Aa (Bw rfl rfl) <| Aa (Al rfl) <| Ad) fun _ F => Ai <| Ac <| Bm F rfl (fun h2 => ?_) (fun h2 => ?_)
 ·replace H := Bb h2 H
  refine Ah <| Ak <| Aj F (Aa (Bj Fx.agg79 rfl (s4.blk_cells (.head _) (o := 0) (ds := [.int .i64 0, .int .u8 0, .int .i64 0, .int .i64 0]) (fun j u hu => by rw [Nat.zero_add]; exact hu)) rfl) <| Ad) fun _ F => ?_
  have s9 := s4.f1
  refine As F s9 rfl rfl Fx.sz79 (Ae rfl (Ae rfl (Ae rfl (Ae rfl Ba)))) (Ag rfl) fun w5 _ F sa => ?_
  replace sa : SL w [] w5 [Blk g9 79 [.int .i64 0, .int .u8 0, .int .i64 0, .int .i64 0], Blk g32 79 [.int .i64 0, .int .u8 0, .int .i64 0, .int .i64 0]] := sa
  refine Aj F (Aa (Al rfl) <| Ad) fun _ F => Ai <| Ac ?_
  obtain rfl := An H
  refine Bd <| blk_r <| Bg ?_
  refine Av (rs := [.cell 4 79, .tmp 5]) (vs := [.agg ⟨[.int .i64 0, .int .u8 0, .int .i64 0, .int .i64 0]⟩, .int .i64 2]) F (by rfl) ⟨_, _, rfl, Cj sa (.head _) rfl Fx.agg79 rfl, _, _, rfl, Ay rfl, rfl⟩ ⟨_, rfl, ⟨rfl, sa.drop.drop⟩⟩
 replace H := Bc h2 H
 refine Ah <| Ak ?_
 obtain ⟨x0, h3, H⟩ := Ap H
 obtain ⟨a2, h4, h5⟩ := Dg Flat.u8 (Cv hr0 s4) Fx.sl38 rfl h3
 obtain ⟨x1, h6, H⟩ := Ap H
 refine Aj F (Aa (Af rfl) <| Aa (Af rfl) <| Aa (h4 _ _ _ _ _ _ _ _ _ _ rfl rfl) <| Aa (Az Fx.nag5 rfl (Cells.at_ h5 (o := 0) rfl)) <| Ad) fun _ F => Bk (args := [.tmp 33]) F Fx.fn38 rfl (code_Size_c (a0 := x0)    h6) rfl fun v1 w6 _ h7 F => ?_
 obtain ⟨rfl, h8⟩ := h7
 have sb := s4.add h8
 refine Aj F (Aa (Bw rfl rfl) <| Aa (Al rfl) <| Ad) fun _ F => Ai <| Ac <| Bm F rfl (fun h9 => ?_) (fun h9 => ?_)
 ·replace H := Bb h9 H
  refine Ah <| Ak <| Aj F (Aa (Bj Fx.agg79 rfl (sb.blk_cells (.head _) (o := 0) (ds := [.int .i64 0, .int .u8 0, .int .i64 0, .int .i64 0]) (fun j u hu => by rw [Nat.zero_add]; exact hu)) rfl) <| Ad) fun _ F => ?_
  have sc := sb.f1
  refine As F sc rfl rfl Fx.sz79 (Ae rfl (Ae rfl (Ae rfl (Ae rfl Ba)))) (Ag rfl) fun w7 _ F sd => ?_
  replace sd : SL w [] w7 [Blk g9 79 [.int .i64 0, .int .u8 0, .int .i64 0, .int .i64 0], Blk g32 79 [.int .i64 0, .int .u8 0, .int .i64 0, .int .i64 0]] := sd
  refine Aj F (Aa (Al rfl) <| Ad) fun _ F => Ai <| Ac ?_
  obtain rfl := An H
  refine Bd <| blk_r <| Bg ?_
  refine Av (rs := [.cell 4 79, .tmp 5]) (vs := [.agg ⟨[.int .i64 0, .int .u8 0, .int .i64 0, .int .i64 0]⟩, .int .i64 40]) F (by rfl) ⟨_, _, rfl, Cj sd (.head _) rfl Fx.agg79 rfl, _, _, rfl, Ay rfl, rfl⟩ ⟨_, rfl, ⟨rfl, sd.drop.drop⟩⟩
 replace H := Bc h9 H
 refine Ah <| Ak ?_
 obtain ⟨x2, ha, H⟩ := Ap H
 obtain ⟨a3, hb, hc⟩ := Dg Flat.u8 (Cv hr0 sb) Fx.sl38 rfl ha
 obtain ⟨x3, hd, H⟩ := Ap H
 refine Aj F (Aa (Af rfl) <| Aa (Cc rfl Tryz.underlying38 (Bu (Cv hr0 sb))) <| Aa (Af rfl) <| Aa (ex_sub rfl rfl) <| Aa (Af rfl) <| Aa (Af rfl) <| Aa (hb _ _ _ _ _ _ _ _ _ _ rfl rfl) <| Aa (Az Fx.nag5 rfl (Cells.at_ hc (o := 0) rfl)) <| Ad) fun _ F => Bk (args := [.tmp 45]) F Fx.fn38 rfl (code_Size_c (a0 := x2)    hd) rfl fun v2 w8 _ he F => ?_
 obtain ⟨rfl, hf⟩ := he
 have se := sb.add hf
 refine Aj F (Aa (Cr rfl rfl) <| Aa (Al rfl) <| Ad) fun _ F => Ai <| Ac <| Bm F rfl (fun hg => ?_) (fun hg => ?_)
 ·replace H := Bb hg H
  refine Ah <| Ak <| Aj F (Aa (Bj Fx.agg79 rfl (se.blk_cells (.head _) (o := 0) (ds := [.int .i64 0, .int .u8 0, .int .i64 0, .int .i64 0]) (fun j u hu => by rw [Nat.zero_add]; exact hu)) rfl) <| Ad) fun _ F => ?_
  have sf := se.f1
  refine As F sf rfl rfl Fx.sz79 (Ae rfl (Ae rfl (Ae rfl (Ae rfl Ba)))) (Ag rfl) fun w9 _ F sg => ?_
  replace sg : SL w [] w9 [Blk g9 79 [.int .i64 0, .int .u8 0, .int .i64 0, .int .i64 0], Blk g32 79 [.int .i64 0, .int .u8 0, .int .i64 0, .int .i64 0]] := sg
  refine Aj F (Aa (Al rfl) <| Ad) fun _ F => Ai <| Ac ?_
  obtain rfl := An H
  refine Bd <| blk_r <| Bg ?_
  refine Av (rs := [.cell 4 79, .tmp 5]) (vs := [.agg ⟨[.int .i64 0, .int .u8 0, .int .i64 0, .int .i64 0]⟩, .int .i64 2]) F (by rfl) ⟨_, _, rfl, Cj sg (.head _) rfl Fx.agg79 rfl, _, _, rfl, Ay rfl, rfl⟩ ⟨_, rfl, ⟨rfl, sg.drop.drop⟩⟩
 replace H := Bc hg H
 refine Aw <| Bz <| Ac <| Ah <| Ak ?_
 obtain ⟨x4, hh, H⟩ := Ap H
 obtain ⟨a4, hi, hj⟩ := Dg Flat.u8 (Cv hr0 se) Fx.sl38 rfl hh
 refine Aj F (Aa (Af rfl) <| Aa (Af rfl) <| Aa (Af rfl) <| Aa (hi _ _ _ _ _ _ _ _ _ _ rfl rfl) <| Aa (Az Fx.nag5 rfl (Cells.at_ hj (o := 0) rfl)) <| Aa (Cn (vs := [.int .i64 a1, .int .u8 (x4.toNat : Int)]) Fx.zero79 Fx.pl79 rfl (cs := [.int .i64 a1, .int .u8 (x4.toNat : Int), .int .i64 0, .int .i64 0]) (rfl)) <| Ad) fun _ F => Bo F se Fx.zero79 rfl rfl fun g0 wa _ F sh => ?_
 have si := sh
 refine As F si rfl rfl Fx.sz79 (Ae rfl (Ae rfl (Ae rfl (Ae rfl Ba)))) (Ag rfl) fun wb _ F sj => ?_
 replace sj : SL w [] wb [Blk g0 79 [.int .i64 a1, .int .u8 (x4.toNat : Int), .int .i64 0, .int .i64 0], Blk g32 79 [.int .i64 0, .int .u8 0, .int .i64 0, .int .i64 0], Blk g9 79 [.int .i64 0, .int .u8 0, .int .i64 0, .int .i64 0]] := sj
 refine Ai <| Ac <| Ah <| Ak ?_
 obtain ⟨x5, hk, H⟩ := Ap H
 obtain ⟨v3, hl, hm⟩ := Rd.cut hr0 Fx.sl38 rfl hk (some (wr (a1 + 1))) none (.inl rfl) (.inr ⟨rfl, rfl⟩)
 refine Aj F (Aa (Af rfl) <| Aa (Af rfl) <| Aa (Bq rfl rfl) <| Aa (hl _ _ _ _ _ .i64 .i64 _ _ _ _ _ rfl rfl trivial) <| Ad) fun _ F => Bo F sj Fx.zero38 rfl rfl fun g1 wc _ F sk => ?_
 have sl := sk
 refine Cq F sl rfl rfl Fx.sz38 (Ct (Bu (Cv hm sl))) (Cd (Bu (Cv hm sl))) rfl fun wd _ F sm => ?_
 replace sm : SL w [] wd [Blk g1 38 [v3], Blk g0 79 [.int .i64 a1, .int .u8 (x4.toNat : Int), .int .i64 0, .int .i64 0], Blk g32 79 [.int .i64 0, .int .u8 0, .int .i64 0, .int .i64 0], Blk g9 79 [.int .i64 0, .int .u8 0, .int .i64 0, .int .i64 0]] := sm
 refine Ai <| Ac <| Ah <| Ak <| Aj F (Aa (ex_mkfunc (cs := [.tmp 8]) (vs := [.pointer (some ⟨g1, 0, none⟩)]) rfl) <| Aa (Al rfl) <| Ad) fun _ F => Ai <| Ac <| Ah <| Ak ?_
 obtain ⟨x6, hn, H⟩ := Ap H
 refine Aj F (Aa (Ax Fx.fa79_1 rfl rfl) <| Aa (Az Fx.nag5 rfl (sm.blk_cell (.tail _ <| .head _) rfl)) <| Ad) fun _ F => Bk (args := [.tmp 62]) F Fx.fn57 rfl (code_widths_c (a0 := x4)    hn) rfl fun v4 we _ ho F => ?_
 obtain ⟨rfl, hp⟩ := ho
 have sn := sm.add hp
 refine Aj F (Aa (Af rfl) <| Aa (Au (v := .int .i64 x6.1) rfl rfl) <| Aa (Au (v := .int .i64 x6.2) rfl rfl) <| Aa (Al rfl) <| Aa (Al rfl) <| Ad) fun _ F => Ai <| Ac <| Ah <| Ak ?_
 obtain ⟨x7, hq, H⟩ := Ap H
 refine Aj F (Aa (Af rfl) <| Aa (Af rfl) <| Ad) fun _ F => ?_
 have so := sn
 obtain ⟨G0, hr, hs, ht, hv⟩ := SL.open_ (ps := [Blk g1 38 [v3]]) (rest := [Blk g0 79 [.int .i64 a1, .int .u8 (x4.toNat : Int), .int .i64 0, .int .i64 0], Blk g32 79 [.int .i64 0, .int .u8 0, .int .i64 0, .int .i64 0], Blk g9 79 [.int .i64 0, .int .u8 0, .int .i64 0, .int .i64 0]]) so
 refine st_callf (args := [.tmp 67]) F Fx.fn70 rfl rfl (code_Decode_1_s0_c (a0 := x6.1) (a1 := x5) hr  (hm.pass so hs) hq) rfl fun v5 wf _ hw F => ?_
 obtain ⟨v6, rfl, hx, hy⟩ := hw
 have sp := hv _ _ hy
 have hz := View.rd hx hm
 refine Aj F (Aa (Ax Fx.fa79_2 rfl rfl) <| Ad) fun _ F => ?_
 have sq := sp.f1
 refine Cq F sq rfl rfl Fx.sz3 rfl rfl rfl fun wg _ F sr => ?_
 replace sr : SL w [] wg [Blk g0 79 [.int .i64 a1, .int .u8 (x4.toNat : Int), .int .i64 x7.1, .int .i64 0], Blk g1 38 [v6], Blk g32 79 [.int .i64 0, .int .u8 0, .int .i64 0, .int .i64 0], Blk g9 79 [.int .i64 0, .int .u8 0, .int .i64 0, .int .i64 0]] := sr
 refine Ai <| Ac <| Ah <| Ak ?_
 obtain ⟨x8, h10, H⟩ := Ap H
 refine Aj F (Aa (Af rfl) <| Aa (Af rfl) <| Ad) fun _ F => ?_
 have ss := sr.f1
 obtain ⟨G1, h11, h12, h13, h14⟩ := SL.open_ (ps := [Blk g1 38 [v6]]) (rest := [Blk g0 79 [.int .i64 a1, .int .u8 (x4.toNat : Int), .int .i64 x7.1, .int .i64 0], Blk g32 79 [.int .i64 0, .int .u8 0, .int .i64 0, .int .i64 0], Blk g9 79 [.int .i64 0, .int .u8 0, .int .i64 0, .int .i64 0]]) ss
 refine st_callf (args := [.tmp 71]) F Fx.fn70 rfl rfl (code_Decode_1_s0_c (a0 := x6.2) (a1 := x7.2) h11  (hz.pass ss h12) h10) rfl fun v7 wh _ h15 F => ?_
 obtain ⟨v8, rfl, h16, h17⟩ := h15
 have st := h14 _ _ h17
 have h18 := View.rd h16 hz
 refine Aj F (Aa (Ax Fx.fa79_3 rfl rfl) <| Ad) fun _ F => ?_
 have su := st.f1
 refine Cq F su rfl rfl Fx.sz3 rfl rfl rfl fun wi _ F sv => ?_
 replace sv : SL w [] wi [Blk g0 79 [.int .i64 a1, .int .u8 (x4.toNat : Int), .int .i64 x7.1, .int .i64 x8.1], Blk g1 38 [v8], Blk g32 79 [.int .i64 0, .int .u8 0, .int .i64 0, .int .i64 0], Blk g9 79 [.int .i64 0, .int .u8 0, .int .i64 0, .int .i64 0]] := sv
 refine Ai <| Ac <| Ah <| Ah <| Ak <| Aj F (Aa (Ax Fx.fa79_1 rfl rfl) <| Aa (Az Fx.nag5 rfl (sv.blk_cell (.head _) rfl)) <| Aa (Bw rfl rfl) <| Aa (Af rfl) <| Ad) fun _ F => Bl ((x4.toNat : Int) == 2) (fun h19 => ?_) (fun h19 => ?_)
 ·replace H := Bb h19 H
  refine Aq F rfl rfl (Am rfl h19) (Ax Fx.fa79_2 rfl rfl) rfl rfl fun _ F => Aq F rfl rfl (Am rfl h19) (Az Fx.nag3 rfl (sv.blk_cell (.head _) rfl)) rfl rfl fun _ F => Aq F rfl rfl (Am rfl h19) (ex_gt rfl rfl) rfl rfl fun _ F => Aj F (Aa (Bf (By rfl h19) rfl) <| Ad) fun _ F => Ai <| Ac <| Bm F rfl (fun h1a => ?_) (fun h1a => ?_)
  ·replace H := Bb h1a H
   refine Ah <| Ak <| Aj F (Aa (Bj Fx.agg79 rfl (sv.blk_cells (.tail _ <| .tail _ <| .head _) (o := 0) (ds := [.int .i64 0, .int .u8 0, .int .i64 0, .int .i64 0]) (fun j u hu => by rw [Nat.zero_add]; exact hu)) rfl) <| Ad) fun _ F => ?_
   have sw := sv.f3
   refine As F sw rfl rfl Fx.sz79 (Ae rfl (Ae rfl (Ae rfl (Ae rfl Ba)))) (Ag rfl) fun wj _ F sx => ?_
   replace sx : SL w [] wj [Blk g9 79 [.int .i64 0, .int .u8 0, .int .i64 0, .int .i64 0], Blk g0 79 [.int .i64 a1, .int .u8 (x4.toNat : Int), .int .i64 x7.1, .int .i64 x8.1], Blk g1 38 [v8], Blk g32 79 [.int .i64 0, .int .u8 0, .int .i64 0, .int .i64 0]] := sx
   refine Aj F (Aa (Al rfl) <| Ad) fun _ F => Ai <| Ac ?_
   obtain rfl := An H
   refine Bd <| Bg ?_
   refine Av (rs := [.cell 4 79, .tmp 5]) (vs := [.agg ⟨[.int .i64 0, .int .u8 0, .int .i64 0, .int .i64 0]⟩, .int .i64 5]) F (by rfl) ⟨_, _, rfl, Cj sx (.head _) rfl Fx.agg79 rfl, _, _, rfl, Ay rfl, rfl⟩ ⟨_, rfl, ⟨rfl, sx.drop.drop.drop.drop⟩⟩
  replace H := Bc h1a H
  refine Aw <| Ac <| Ah <| Ak <| Aj F (Aa (Bj Fx.agg79 rfl (sv.blk_cells (.head _) (o := 0) (ds := [.int .i64 a1, .int .u8 (x4.toNat : Int), .int .i64 x7.1, .int .i64 x8.1]) (fun j u hu => by rw [Nat.zero_add]; exact hu)) rfl) <| Ad) fun _ F => ?_
  have sy := sv.f3
  refine As F sy rfl rfl Fx.sz79 (Ae rfl (Ae rfl (Ae rfl (Ae rfl Ba)))) (Ag rfl) fun wk _ F sz => ?_
  replace sz : SL w [] wk [Blk g9 79 [.int .i64 a1, .int .u8 (x4.toNat : Int), .int .i64 x7.1, .int .i64 x8.1], Blk g0 79 [.int .i64 a1, .int .u8 (x4.toNat : Int), .int .i64 x7.1, .int .i64 x8.1], Blk g1 38 [v8], Blk g32 79 [.int .i64 0, .int .u8 0, .int .i64 0, .int .i64 0]] := sz
  refine Aj F (Aa (Al rfl) <| Ad) fun _ F => Ai <| Ac ?_
  obtain rfl := An H
  refine Bd ?_
  refine Av (rs := [.cell 4 79, .tmp 5]) (vs := [.agg ⟨[.int .i64 a1, .int .u8 (x4.toNat : Int), .int .i64 x7.1, .int .i64 x8.1]⟩, .int .i64 0]) F (by rfl) ⟨_, _, rfl, Cj sz (.head _) rfl Fx.agg79 rfl, _, _, rfl, Ay rfl, rfl⟩ ⟨_, rfl, ⟨rfl, sz.drop.drop.drop.drop⟩⟩
 replace H := Bc h19 H
 refine Ao F rfl rfl (Am rfl h19) Ab rfl rfl fun _ F => Ao F rfl rfl (Am rfl h19) Ab rfl rfl fun _ F => Ao F rfl rfl (Am rfl h19) Ab rfl rfl fun _ F => Aj F (Aa (Bi (By rfl h19) rfl) <| Ad) fun _ F => Ai <| Ac <| Cm F rfl <| Aw <| Ac <| Ah <| Ak <| Aj F (Aa (Bj Fx.agg79 rfl (sv.blk_cells (.head _) (o := 0) (ds := [.int .i64 a1, .int .u8 (x4.toNat : Int), .int .i64 x7.1, .int .i64 x8.1]) (fun j u hu => by rw [Nat.zero_add]; exact hu)) rfl) <| Ad) fun _ F => ?_
 have s10 := sv.f3
 refine As F s10 rfl rfl Fx.sz79 (Ae rfl (Ae rfl (Ae rfl (Ae rfl Ba)))) (Ag rfl) fun wl _ F s11 => ?_
 replace s11 : SL w [] wl [Blk g9 79 [.int .i64 a1, .int .u8 (x4.toNat : Int), .int .i64 x7.1, .int .i64 x8.1], Blk g0 79 [.int .i64 a1, .int .u8 (x4.toNat : Int), .int .i64 x7.1, .int .i64 x8.1], Blk g1 38 [v8], Blk g32 79 [.int .i64 0, .int .u8 0, .int .i64 0, .int .i64 0]] := s11
 refine Aj F (Aa (Al rfl) <| Ad) fun _ F => Ai <| Ac ?_
 obtain rfl := An H
 refine Bd ?_
 refine Av (rs := [.cell 4 79, .tmp 5]) (vs := [.agg ⟨[.int .i64 a1, .int .u8 (x4.toNat : Int), .int .i64 x7.1, .int .i64 x8.1]⟩, .int .i64 0]) F (by rfl) ⟨_, _, rfl, Cj s11 (.head _) rfl Fx.agg79 rfl, _, _, rfl, Ay rfl, rfl⟩ ⟨_, rfl, ⟨rfl, s11.drop.drop.drop.drop⟩⟩
-- proviso/flow.Scan
theorem flow_Scan_c {w : World} {v0 : Value} {a0 : List UInt8} {r : (List S_api_Instr) × Int × Int} (hr0 : Rd Ty.u8 w [] v0 a0) (H : flow_Scan a0 = some r) :
    Calls Tryz.prog 28 #[v0] w (Ret fun u_ w_ => ∃ u0 : Value, u_ = .tuple ⟨[u0, .int .i64 r.2.1, .int .i64 r.2.2]⟩ ∧ SL w [] w_ [Sl T_api_Instr u0 r.1]) := by
 have s0 : SL w [] w [] := SL.init0 w
 refine Bn Tryz.func28 rfl Tryz.ntmps28 (Ag rfl) (args := [v0]) fun q0 F0 => ?_
 unfold flow_Scan at H
 refine Ah <| Ak <| Aj F0 (Aa (Al rfl) <| Aa (Al rfl) <| Aa (Al rfl) <| Ad) fun q3 F4 => Ai <| Ac <| Ah <| Ah <| Ak <| Aj F4 (Aa (Af rfl) <| Aa (Cc rfl Tryz.underlying38 (Bu (Cv hr0 s0))) <| Aa (ex_gt rfl rfl) <| Ad) fun _ F => Ai <| Ac <| Bm F rfl (fun h0 => ?_) (fun h0 => ?_)
 ·replace H := Bb h0 H
  refine Ah <| Ak <| Aj F (Aa (Al rfl) <| Aa (Al rfl) <| Aa (Al rfl) <| Ad) fun _ F => Ai <| Ac ?_
  obtain rfl := An H
  refine Bd <| Bg ?_
  refine Av (rs := [.tmp 2, .tmp 3, .tmp 4]) (vs := [.slice none 0 0, .int .i64 0, .int .i64 4]) F (by rfl) ⟨_, _, rfl, Ay rfl, _, _, rfl, Ay rfl, _, _, rfl, Ay rfl, rfl⟩ ⟨_, rfl, ⟨(.slice none 0 0), rfl, (SL.nilSl (T := T_api_Instr) s0)⟩⟩
 replace H := Bc h0 H
 refine Aw <| Ac <| Ah <| Ak <| Aj F (Aa (Al rfl) <| Ad) fun _ F => Ai <| Ac <| Ah <| Ah <| Ak <| Aj F (Aa (Al rfl) <| Ad) fun _ F => Ai <| Ac ?_
 obtain ⟨o0, H0, R0⟩ := Ap H
 clear H
 refine Bx (fun a w_ => ∃ p0 : (List S_api_Instr), o0 = .inr (p0) ∧ ∃ v1 : Value, Fr a 36 [(5, v1)] ∧ SL w [] w_ [Sl T_api_Instr v1 p0]) ?_ ?_
 ·have H := H0
  refine Bh <| Cu (flow_Scan_b0 a0) (fun s1 a w_ => ∃ v2 : Value, Fr a 36 [(0, v0), (5, v2), (6, .int .i64 s1.2)] ∧ SL w [] w_ [Sl T_api_Instr v2 s1.1]) H ?_ ?_
  ·exact ⟨(.slice none 0 0), F.sub ⟨rfl, rfl, rfl, trivial⟩, (SL.nilSl (T := T_api_Instr) s0)⟩
  intro s1 _ w0 h1 o1 H hr
  obtain ⟨v2, F, s2⟩ := h1
  replace H : flow_Scan_b0 a0 s1 = some o1 := H
  unfold flow_Scan_b0 at H
  refine Ah <| Ah <| Ak <| Aj F (Aa (Af rfl) <| Aa (Af rfl) <| Aa (Cc rfl Tryz.underlying38 (Bu (Cv hr0 s2))) <| Aa (Cr rfl rfl) <| Ad) fun _ F => Ai <| Ac <| Bm F rfl (fun h2 => ?_) (fun h2 => ?_)
  ·replace H := Bb h2 H
   refine Aw <| Ac <| Bh <| Ah <| Ak ?_
   obtain ⟨x0, h3, H⟩ := Ap H
   refine Aj F (Aa (Af rfl) <| Aa (Af rfl) <| Ad) fun _ F => Bk (args := [.tmp 17, .tmp 18]) F Fx.fn49 rfl (code_Decode_c (a0 := a0) (a1 := s1.2)   (hr0.pass0 s2) h3) rfl fun v3 w1 _ h4 F => ?_
   obtain ⟨rfl, h5⟩ := h4
   have s3 := s2.add h5
   refine Aj F (Aa (Af rfl) <| Aa (Au (v := .agg ⟨[.int .i64 x0.1.At, .int .u8 (x0.1.Op.toNat : Int), .int .i64 x0.1.A, .int .i64 x0.1.B]⟩) rfl rfl) <| Aa (Au (v := .int .i64 x0.2) rfl rfl) <| Ad) fun _ F => Bo F s3 Fx.zero79 rfl rfl fun g0 w2 _ F s4 => ?_
   have s5 := s4
   refine As F s5 rfl rfl Fx.sz79 (Ae rfl (Ae rfl (Ae rfl (Ae rfl Ba)))) (Ag rfl) fun w3 _ F s6 => ?_
   replace s6 : SL w [] w3 [Blk g0 79 [.int .i64 x0.1.At, .int .u8 (x0.1.Op.toNat : Int), .int .i64 x0.1.A, .int .i64 x0.1.B], Sl T_api_Instr v2 s1.1] := s6
   refine Aj F (Aa (Al rfl) <| Ad) fun _ F => Ai <| Ac <| Ah <| Ah <| Ak <| Aj F (Aa (Af rfl) <| Aa (De rfl rfl) <| Ad) fun _ F => Ai <| Ac <| Bm F rfl (fun h6 => ?_) (fun h6 => ?_)
   ·replace H := Bb h6 H
    refine Ah <| Ak <| Aj F (Aa (Af rfl) <| Aa (Af rfl) <| Aa (Al rfl) <| Aa (Al rfl) <| Aa (Al rfl) <| Ad) fun _ F => Ai <| Ac ?_
    obtain rfl := An H
    obtain rfl := hr _ rfl
    replace H := R0
    try dsimp only at H
    obtain rfl := An H
    refine Bd <| Bg <| blk_r <| Bg <| blk_r <| Bg <| Bg ?_
    refine Av (rs := [.tmp 2, .tmp 3, .tmp 4]) (vs := [.slice none 0 0, .int .i64 s1.2, .int .i64 x0.2]) F (by rfl) ⟨_, _, rfl, Ay rfl, _, _, rfl, Ay rfl, _, _, rfl, Ay rfl, rfl⟩ ⟨_, rfl, ⟨(.slice none 0 0), rfl, (SL.nilSl (T := T_api_Instr) s6).f1.drop.f1.drop⟩⟩
   replace H := Bc h6 H
   refine Aw <| Ac <| Ah <| Ak <| Aj F (Aa (Af rfl) <| Aa (Bj Fx.agg79 rfl (s6.blk_cells (.head _) (o := 0) (ds := [.int .i64 x0.1.At, .int .u8 (x0.1.Op.toNat : Int), .int .i64 x0.1.A, .int .i64 x0.1.B]) (fun j u hu => by rw [Nat.zero_add]; exact hu)) rfl) <| Ad) fun _ F => ?_
   refine Cs (parts := [(0, .tmp 27)]) F_api_Instr ([(⟨x0.1.At, x0.1.Op, x0.1.A, x0.1.B⟩ : S_api_Instr)] : List S_api_Instr) F s6 Fx.sl67 rfl (by decide) rfl rfl rfl (by simp [Value.cells]) rfl rfl rfl fun v4 w4 _ F s7 => ?_
   obtain ⟨x1, h7, H⟩ := Ap H
   have s8 := s7.f2
   obtain ⟨_, hr_⟩ := (s8.own_rd (.tail _ <| .head _))
   refine Ci F_api_Instr F s8 Fx.sl67 rfl rfl rfl rfl hr_ rfl rfl h7 rfl fun v5 w5 _ F s9 => ?_
   have s3245' := s9.f1.drop
   refine Aj F (Aa (Al rfl) <| Ad) fun _ F => Ai <| Ac <| Ak ?_
   obtain ⟨x2, h8, H⟩ := Ap H
   refine Aj F (Aa (Af rfl) <| Aa (Ax Fx.fa79_1 rfl rfl) <| Aa (Az Fx.nag5 rfl (s3245'.blk_cell (.tail _ <| .head _) rfl)) <| Ad) fun _ F => Bk (args := [.tmp 32]) F Fx.fn38 rfl (code_Size_c (a0 := x0.1.Op)    h8) rfl fun v6 w6 _ h9 F => ?_
   obtain ⟨rfl, ha⟩ := h9
   have sa := s3245'.add ha
   refine Aj F (Aa (Bq rfl rfl) <| Aa (Al rfl) <| Ad) fun _ F => Ai <| Bz ?_
   obtain rfl := An H
   refine Ac ?_
   exact ⟨_, rfl, v5, F.sub ⟨rfl, rfl, rfl, trivial⟩, sa.f1.drop⟩
  replace H := Bc h2 H
  refine Ca <| Bp <| Bp <| Cb ?_
  obtain rfl := An H
  obtain rfl := hr _ rfl
  refine Ac ?_
  exact ⟨_, rfl, v2, F.sub ⟨rfl, trivial⟩, s2⟩
 intro _ w7 hJ
 obtain ⟨p0, rfl, v1, F, sb⟩ := hJ
 have H := R0
 clear R0 H0
 try dsimp only at H
 refine Ac <| Ah <| Ak <| Aj F (Aa (Af rfl) <| Aa (Al rfl) <| Aa (Al rfl) <| Aa (Al rfl) <| Ad) fun _ F => Ai <| Ac ?_
 obtain rfl := An H
 refine Bd ?_
 refine Av (rs := [.tmp 2, .tmp 3, .tmp 4]) (vs := [v1, .int .i64 0, .int .i64 0]) F (by rfl) ⟨_, _, rfl, Ay rfl, _, _, rfl, Ay rfl, _, _, rfl, Ay rfl, rfl⟩ ⟨_, rfl, ⟨v1, rfl, sb⟩⟩
-- proviso/flow.addresses
theorem flow_addresses_c {w : World} {v0 : Value} {a0 : List S_api_Instr} {r : (List (Int × Int))} (hr0 : Rd T_api_Instr w [] v0 a0) (H : flow_addresses a0 = some r) :
    Calls Tryz.prog 29 #[v0] w (Ret fun u_ w_ => ∃ k0 : Nat, u_ = .map (some k0) ∧ SL w [] w_ [Mp (Value.int .i64) (Value.int .i64) k0 r]) := by
 have s0 : SL w [] w [] := SL.init0 w
 refine Bn Tryz.func29 rfl Tryz.ntmps29 (Ag rfl) (args := [v0]) fun q0 F0 => ?_
 unfold flow_addresses at H
 refine Ah <| Ak <| Aj F0 (Aa (Al rfl) <| Ad) fun q3 F4 => Ai <| Ac <| Ah <| Ak <| st_mkmap (Value.int .i64) (Value.int .i64) F4 s0 rfl fun g0 w0 _ F s1 => Aj F (Aa (Al rfl) <| Ad) fun _ F => Ai <| Ac <| Ah <| Ah <| Ak <| Aj F (Aa (Af rfl) <| Aa (Cc rfl Tryz.underlying67 (Bu (Cv hr0 s1))) <| Aa (Af rfl) <| Ad) fun _ F => Ai <| Ac ?_
 obtain ⟨o0, H0, R0⟩ := Ap H
 clear H
 refine Bx (fun a w_ => Fr a 31 [(3, .map (some g0))] ∧ SL w [] w_ [Mp (Value.int .i64) (Value.int .i64) g0 o0]) ?_ ?_
 ·have H := H0
  refine Bh <| Cu (flow_addresses_b0 a0) (fun s2 a w_ => Fr a 31 [(3, .map (some g0)), (9, v0), (10, .int .i64 (a0.length : Int)), (11, .int .i64 s2.2)] ∧ SL w [] w_ [Mp (Value.int .i64) (Value.int .i64) g0 s2.1]) H ?_ ?_
  ·exact ⟨F.sub ⟨rfl, rfl, rfl, rfl, trivial⟩, s1⟩
  intro s2 _ w1 h0 o1 H hr
  obtain ⟨F, s3⟩ := h0
  replace H : flow_addresses_b0 a0 s2 = some o1 := H
  unfold flow_addresses_b0 at H
  refine Ah <| Ak <| Aj F (Aa (Cr rfl rfl) <| Ad) fun _ F => Ai <| Ac <| Ah <| Bm F rfl (fun h1 => ?_) (fun h1 => ?_)
  ·replace H := Bb h1 H
   refine Aw <| Ac <| Ah <| Bh <| Ah <| Ak ?_
   obtain ⟨x0, h2, H⟩ := Ap H
   obtain ⟨a1, h3, h4⟩ := Dg F_api_Instr (Cv hr0 s3) Fx.sl67 rfl h2
   refine Aj F (Aa (Af rfl) <| Aa (h3 _ _ _ _ _ _ _ _ _ _ rfl rfl) <| Aa (Bj Fx.agg79 rfl h4 rfl) <| Ad) fun _ F => Bo F s3 Fx.zero79 rfl rfl fun g1 w2 _ F s4 => Aj F (Aa (Al rfl) <| Ad) fun _ F => ?_
   have s5 := s4
   refine As F s5 rfl rfl Fx.sz79 (Ae rfl (Ae rfl (Ae rfl (Ae rfl Ba)))) (Ag rfl) fun w3 _ F s6 => ?_
   replace s6 : SL w [] w3 [Blk g1 79 [.int .i64 x0.At, .int .u8 (x0.Op.toNat : Int), .int .i64 x0.A, .int .i64 x0.B], Mp (Value.int .i64) (Value.int .i64) g0 s2.1] := s6
   refine Ai <| Ac <| Ah <| Ak <| Aj F (Aa (Af rfl) <| Aa (Ax Fx.fa79_0 rfl rfl) <| Aa (Az Fx.nag3 rfl (s6.blk_cell (.head _) rfl)) <| Aa (ex_lookup2 (k := x0.At) (z0 := (0 : Int)) s6 (.tail _ <| .head _) Tryz.underlying76 Fx.key3 Fx.mz3 rfl rfl) <| Aa (Af rfl) <| Aa (Au (v := .int .i64 ((mget s2.1 x0.At).getD (0 : Int))) rfl rfl) <| Aa (Au (v := .bool ((mget s2.1 x0.At).isSome)) rfl rfl) <| Aa (Al rfl) <| Aa (Al rfl) <| Ad) fun _ F => Ai <| Ac <| Ah <| Ak <| Aj F (Aa (Af rfl) <| Aa (Da rfl) <| Ad) fun _ F => Ai <| Ac <| Bm F rfl (fun h5 => ?_) (fun h5 => ?_)
   ·replace H := Bb h5 H
    refine Ak <| Aj F (Aa (Af rfl) <| Aa (Ax Fx.fa79_0 rfl rfl) <| Aa (Az Fx.nag3 rfl (s6.blk_cell (.head _) rfl)) <| Aa (Af rfl) <| Ad) fun _ F => st_mapset (k := x0.At) (u := s2.2) F s6.f1 Tryz.underlying76 Fx.key3 rfl rfl rfl fun w4 _ F s7 => Ai <| Bz <| Ac <| Ak <| Aj F (Aa (Bq rfl rfl) <| Aa (Af rfl) <| Ad) fun _ F => Ai ?_
    obtain rfl := An H
    refine Ac ?_
    exact ⟨_, rfl, F.sub ⟨rfl, rfl, rfl, rfl, trivial⟩, s7.f1.drop⟩
   replace H := Bc h5 H
   refine Aw <| Bz <| Ac <| Ak <| Aj F (Aa (Bq rfl rfl) <| Aa (Af rfl) <| Ad) fun _ F => Ai ?_
   obtain rfl := An H
   refine Ac ?_
   exact ⟨_, rfl, F.sub ⟨rfl, rfl, rfl, rfl, trivial⟩, s6.drop⟩
  replace H := Bc h1 H
  refine Ca <| Bp <| Bp <| Cb ?_
  obtain rfl := An H
  obtain rfl := hr _ rfl
  refine Ac ?_
  exact ⟨F.sub ⟨rfl, trivial⟩, s3⟩
 intro _ w5 hJ
 obtain ⟨F, s8⟩ := hJ
 have H := R0
 clear R0 H0
 refine Ac <| Ah <| Ak <| Aj F (Aa (Af rfl) <| Aa (Al rfl) <| Ad) fun _ F => Ai <| Ac ?_
 obtain rfl := An H
 refine Bd ?_
 refine Av (rs := [.tmp 2]) (vs := [.map (some g0)]) F (by rfl) ⟨_, _, rfl, Ay rfl, rfl⟩ ⟨_, rfl, ⟨g0, rfl, s8⟩⟩
-- proviso/code.Jumps
theorem code_Jumps_c {w : World} {a0 : UInt8} {r : Bool}  (H : code_Jumps a0 = some r) :
    Calls Tryz.prog 30 #[.int .u8 (a0.toNat : Int)] w (Ret fun u_ w_ => u_ = .bool r ∧ SL w [] w_ []) := by
 have s0 : SL w [] w [] := SL.init0 w
 refine Bn Tryz.func30 rfl Tryz.ntmps30 (Ag rfl) (args := [.int .u8 (a0.toNat : Int)]) fun q0 F0 => ?_
 unfold code_Jumps at H
 refine Ah <| Ak <| Aj F0 (Aa (Al rfl) <| Ad) fun q3 F4 => Ai <| Ac <| Ah <| Ak <| Aj F4 (Aa (Af rfl) <| Aa (Bw rfl rfl) <| Aa (Af rfl) <| Ad) fun _ F => Bl ((a0.toNat : Int) == 19) (fun h0 => ?_) (fun h0 => ?_)
 ·replace H := Bb h0 H
  refine Ao F rfl rfl (Am rfl h0) Ab rfl rfl fun _ F => Ao F rfl rfl (Am rfl h0) Ab rfl rfl fun _ F => Aj F (Aa (Bf (By rfl h0) rfl) <| Aa (Al rfl) <| Ad) fun _ F => Ai <| Ac ?_
  obtain rfl := An H
  refine Bd ?_
  refine Av (rs := [.tmp 2]) (vs := [.bool true]) F (by rfl) ⟨_, _, rfl, Ay rfl, rfl⟩ ⟨_, rfl, ⟨rfl, s0⟩⟩
 replace H := Bc h0 H
 refine Aq F rfl rfl (Am rfl h0) (Af rfl) rfl rfl fun _ F => Aq F rfl rfl (Am rfl h0) (Bw rfl rfl) rfl rfl fun _ F => Aj F (Aa (Bi (By rfl h0) rfl) <| Aa (Al rfl) <| Ad) fun _ F => Ai <| Ac ?_
 obtain rfl := An H
 refine Bd ?_
 refine Av (rs := [.tmp 2]) (vs := [.bool ((a0.toNat : Int) == 20)]) F (by rfl) ⟨_, _, rfl, Ay rfl, rfl⟩ ⟨_, rfl, ⟨rfl, s0⟩⟩
-- proviso/code.Ends
theorem code_Ends_c {w : World} {a0 : UInt8} {r : Bool}  (H : code_Ends a0 = some r) :
    Calls Tryz.prog 31 #[.int .u8 (a0.toNat : Int)] w (Ret fun u_ w_ => u_ = .bool r ∧ SL w [] w_ []) := by
 have s0 : SL w [] w [] := SL.init0 w
 refine Bn Tryz.func31 rfl Tryz.ntmps31 (Ag rfl) (args := [.int .u8 (a0.toNat : Int)]) fun q0 F0 => ?_
 unfold code_Ends at H
 refine Ah <| Ak <| Aj F0 (Aa (Al rfl) <| Ad) fun q3 F4 => Ai <| Ac <| Ah <| Ak <| Aj F4 (Aa (Af rfl) <| Aa (Bw rfl rfl) <| Aa (Af rfl) <| Ad) fun _ F => Bl ((a0.toNat : Int) == 19) (fun h0 => ?_) (fun h0 => ?_)
 ·replace H := Bb h0 H
  refine Ao F rfl rfl (Am rfl h0) Ab rfl rfl fun _ F => Ao F rfl rfl (Am rfl h0) Ab rfl rfl fun _ F => Aj F (Aa (Bf (By rfl h0) rfl) <| Aa (Af rfl) <| Ad) fun _ F => Ao F rfl rfl rfl Ab rfl rfl fun _ F => Ao F rfl rfl rfl Ab rfl rfl fun _ F => Aj F (Aa (Bf rfl rfl) <| Aa (Al rfl) <| Ad) fun _ F => Ai <| Ac ?_
  obtain rfl := An H
  refine Bd ?_
  refine Av (rs := [.tmp 2]) (vs := [.bool true]) F (by rfl) ⟨_, _, rfl, Ay rfl, rfl⟩ ⟨_, rfl, ⟨rfl, s0⟩⟩
 replace H := Bc h0 H
 refine Aq F rfl rfl (Am rfl h0) (Af rfl) rfl rfl fun _ F => Aq F rfl rfl (Am rfl h0) (Bw rfl rfl) rfl rfl fun _ F => Aj F (Aa (Bi (By rfl h0) rfl) <| Aa (Af rfl) <| Ad) fun _ F => Bl ((a0.toNat : Int) == 22) (fun h1 => ?_) (fun h1 => ?_)
 ·replace H := Bb h1 H
  refine Ao F rfl rfl (Am rfl h1) Ab rfl rfl fun _ F => Ao F rfl rfl (Am rfl h1) Ab rfl rfl fun _ F => Aj F (Aa (Bf (By rfl h1) rfl) <| Aa (Al rfl) <| Ad) fun _ F => Ai <| Ac ?_
  obtain rfl := An H
  refine Bd ?_
  refine Av (rs := [.tmp 2]) (vs := [.bool true]) F (by rfl) ⟨_, _, rfl, Ay rfl, rfl⟩ ⟨_, rfl, ⟨rfl, s0⟩⟩
 replace H := Bc h1 H
 refine Aq F rfl rfl (Am rfl h1) (Af rfl) rfl rfl fun _ F => Aq F rfl rfl (Am rfl h1) (Bw rfl rfl) rfl rfl fun _ F => Aj F (Aa (Bi (By rfl h1) rfl) <| Aa (Al rfl) <| Ad) fun _ F => Ai <| Ac ?_
 obtain rfl := An H
 refine Bd ?_
 refine Av (rs := [.tmp 2]) (vs := [.bool ((a0.toNat : Int) == 32)]) F (by rfl) ⟨_, _, rfl, Ay rfl, rfl⟩ ⟨_, rfl, ⟨rfl, s0⟩⟩
-- proviso/flow.Check
theorem flow_Check_c {w : World} {v0 : Value} {a0 : List UInt8} {r : Int × Int} (hr0 : Rd Ty.u8 w [] v0 a0) (H : flow_Check a0 = some r) :
    Calls Tryz.prog 19 #[v0] w (Ret fun u_ w_ => u_ = .tuple ⟨[.int .i64 r.1, .int .i64 r.2]⟩ ∧ SL w [] w_ []) := by
 have s0 : SL w [] w [] := SL.init0 w
 refine Bn Tryz.func19 rfl Tryz.ntmps19 (Ag rfl) (args := [v0]) fun q0 F0 => ?_
 unfold flow_Check at H
 refine Ah <| Ak <| Aj F0 (Aa (Al rfl) <| Aa (Al rfl) <| Ad) fun q3 F4 => Ai <| Ac <| Ah <| Ak ?_
 obtain ⟨x0, h0, H⟩ := Ap H
 refine Aj F4 (Aa (Af rfl) <| Ad) fun _ F => Bk (args := [.tmp 14]) F Fx.fn28 rfl (flow_Scan_c (a0 := a0)   (hr0.pass0 s0) h0) rfl fun v1 w0 _ h1 F => ?_
 obtain ⟨v2, rfl, h2⟩ := h1
 have s1 := s0.add h2
 refine Aj F (Aa (Af rfl) <| Aa (Au (v := v2) rfl rfl) <| Aa (Au (v := .int .i64 x0.2.1) rfl rfl) <| Aa (Au (v := .int .i64 x0.2.2) rfl rfl) <| Aa (Al rfl) <| Aa (Al rfl) <| Aa (Al rfl) <| Ad) fun _ F => Ai <| Ac <| Ah <| Ah <| Ak <| Aj F (Aa (Af rfl) <| Aa (De rfl rfl) <| Ad) fun _ F => Ai <| Ac <| Bm F rfl (fun h3 => ?_) (fun h3 => ?_)
 ·replace H := Bb h3 H
  refine Ah <| Ak <| Aj F (Aa (Af rfl) <| Aa (Af rfl) <| Aa (Al rfl) <| Aa (Al rfl) <| Ad) fun _ F => Ai <| Ac ?_
  obtain rfl := An H
  refine Bd <| Bg ?_
  refine Av (rs := [.tmp 2, .tmp 3]) (vs := [.int .i64 x0.2.1, .int .i64 x0.2.2]) F (by rfl) ⟨_, _, rfl, Ay rfl, _, _, rfl, Ay rfl, rfl⟩ ⟨_, rfl, ⟨rfl, s1.drop⟩⟩
 replace H := Bc h3 H
 refine Aw <| Ac <| Ah <| Ak ?_
 obtain ⟨x1, h4, H⟩ := Ap H
 refine Aj F (Aa (Af rfl) <| Ad) fun _ F => Bk (args := [.tmp 23]) F Fx.fn29 rfl (flow_addresses_c (a0 := x0.1)   (s1.rd0 (.head _)) h4) rfl fun v3 w1 _ h5 F => ?_
 obtain ⟨g0, rfl, h6⟩ := h5
 have s2 := s1.add h6
 refine Aj F (Aa (Al rfl) <| Ad) fun _ F => Ai <| Ac <| Ah <| Ah <| Ak <| Aj F (Aa (Af rfl) <| Aa (Cc rfl Tryz.underlying67 (Bu (s2.own_rd (.tail _ <| .head _)))) <| Aa (Af rfl) <| Ad) fun _ F => Ai <| Ac ?_
 obtain ⟨o0, H0, R0⟩ := Ap H
 clear H
 refine Bx (fun a w_ => ∃ p0 : Unit, o0 = .inr (p0) ∧ Fr a 63 [(4, v2)] ∧ SL w [] w_ [Sl T_api_Instr v2 x0.1]) ?_ ?_
 ·have H := H0
  refine Bh <| Cu (flow_Check_b0 x0 x1) (fun s3 a w_ => Fr a 63 [(4, v2), (7, .map (some g0)), (25, v2), (26, .int .i64 (x0.1.length : Int)), (27, .int .i64 s3)] ∧ SL w [] w_ [Mp (Value.int .i64) (Value.int .i64) g0 x1, Sl T_api_Instr v2 x0.1]) H ?_ ?_
  ·exact ⟨F.sub ⟨rfl, rfl, rfl, rfl, rfl, trivial⟩, s2⟩
  intro s3 _ w2 h7 o1 H hr
  obtain ⟨F, s4⟩ := h7
  replace H : flow_Check_b0 x0 x1 s3 = some o1 := H
  unfold flow_Check_b0 at H
  refine Ah <| Ak <| Aj F (Aa (Cr rfl rfl) <| Ad) fun _ F => Ai <| Ac <| Ah <| Bm F rfl (fun h8 => ?_) (fun h8 => ?_)
  ·replace H := Bb h8 H
   refine Aw <| Ac <| Ah <| Bh <| Ah <| Ak ?_
   obtain ⟨x2, h9, H⟩ := Ap H
   obtain ⟨a1, ha, hb⟩ := Ch F_api_Instr s4 (.tail _ <| .head _) Fx.sl67 rfl h9
   refine Aj F (Aa (ha _ _ _ _ _ _ _ _ _ _ rfl rfl) <| Aa (Bj Fx.agg79 rfl (SL.elcells F_api_Instr s4 (.tail _ <| .head _) hb h9) rfl) <| Ad) fun _ F => Bo F s4 Fx.zero79 rfl rfl fun g1 w3 _ F s5 => ?_
   have s6 := s5
   refine As F s6 rfl rfl Fx.sz79 (Ae rfl (Ae rfl (Ae rfl (Ae rfl Ba)))) (Ag rfl) fun w4 _ F s7 => ?_
   replace s7 : SL w [] w4 [Blk g1 79 [.int .i64 x2.At, .int .u8 (x2.Op.toNat : Int), .int .i64 x2.A, .int .i64 x2.B], Mp (Value.int .i64) (Value.int .i64) g0 x1, Sl T_api_Instr v2 x0.1] := s7
   refine Ai <| Ac <| Ah <| Ak <| Aj F (Aa (Af rfl) <| Aa (Ax Fx.fa79_2 rfl rfl) <| Aa (Az Fx.nag3 rfl (s7.blk_cell (.head _) rfl)) <| Aa (ex_lookup2 (k := x2.A) (z0 := (0 : Int)) s7 (.tail _ <| .head _) Tryz.underlying76 Fx.key3 Fx.mz3 rfl rfl) <| Aa (Af rfl) <| Aa (Au (v := .int .i64 ((mget x1 x2.A).getD (0 : Int))) rfl rfl) <| Aa (Au (v := .bool ((mget x1 x2.A).isSome)) rfl rfl) <| Aa (Al rfl) <| Aa (Al rfl) <| Ad) fun _ F => Ai <| Ac <| Ah <| Ak ?_
   obtain ⟨x3, hc, H⟩ := Ap H
   refine Aj F (Aa (Ax Fx.fa79_1 rfl rfl) <| Aa (Az Fx.nag5 rfl (s7.blk_cell (.head _) rfl)) <| Ad) fun _ F => Bk (args := [.tmp 39]) F Fx.fn30 rfl (code_Jumps_c (a0 := x2.Op)    hc) rfl fun v4 w5 _ hd F => ?_
   obtain ⟨rfl, he⟩ := hd
   have s8 := s7.add he
   refine Aj F (Aa (Af rfl) <| Ad) fun _ F => Bl x3 (fun hf => ?_) (fun hf => ?_)
   ·replace H := Bb hf H
    refine Aq F rfl rfl (Am rfl hf) (Af rfl) rfl rfl fun _ F => Aq F rfl rfl (Am rfl hf) (Da rfl) rfl rfl fun _ F => Aj F (Aa (Bf (By rfl hf) rfl) <| Ad) fun _ F => Ai <| Ac <| Bm F rfl (fun hg => ?_) (fun hg => ?_)
    ·replace H := Bb hg H
     refine Ah <| Ak <| Aj F (Aa (Ax Fx.fa79_0 rfl rfl) <| Aa (Az Fx.nag3 rfl (s8.blk_cell (.head _) rfl)) <| Aa (Al rfl) <| Aa (Al rfl) <| Ad) fun _ F => Ai <| Ac ?_
     obtain rfl := An H
     obtain rfl := hr _ rfl
     replace H := R0
     try dsimp only at H
     obtain rfl := An H
     refine Bd <| blk_r <| Bg <| Bg <| blk_r <| Bg <| Bg ?_
     refine Av (rs := [.tmp 2, .tmp 3]) (vs := [.int .i64 x2.At, .int .i64 50]) F (by rfl) ⟨_, _, rfl, Ay rfl, _, _, rfl, Ay rfl, rfl⟩ ⟨_, rfl, ⟨rfl, s8.drop.drop.drop⟩⟩
    replace H := Bc hg H
    refine Aw <| Bz <| Ac <| Ak <| Aj F (Aa (Bq rfl rfl) <| Aa (Af rfl) <| Ad) fun _ F => Ai ?_
    obtain rfl := An H
    refine Ac ?_
    exact ⟨_, rfl, F.sub ⟨rfl, rfl, rfl, rfl, rfl, trivial⟩, s8.drop⟩
   replace H := Bc hf H
   refine Ao F rfl rfl (Am rfl hf) Ab rfl rfl fun _ F => Ao F rfl rfl (Am rfl hf) Ab rfl rfl fun _ F => Aj F (Aa (Bi (By rfl hf) rfl) <| Ad) fun _ F => Ai <| Ac <| Cm F rfl <| Aw <| Bz <| Ac <| Ak <| Aj F (Aa (Bq rfl rfl) <| Aa (Af rfl) <| Ad) fun _ F => Ai ?_
   obtain rfl := An H
   refine Ac ?_
   exact ⟨_, rfl, F.sub ⟨rfl, rfl, rfl, rfl, rfl, trivial⟩, s8.drop⟩
  replace H := Bc h8 H
  refine Ca <| Bp <| Bp <| Cb ?_
  obtain rfl := An H
  obtain rfl := hr _ rfl
  refine Ac ?_
  exact ⟨_, rfl, F.sub ⟨rfl, trivial⟩, s4.drop⟩
 intro _ w6 hJ
 obtain ⟨p0, rfl, F, s9⟩ := hJ
 have H := R0
 clear R0 H0
 try dsimp only at H
 refine Ac <| Ah <| Ah <| Ak <| Aj F (Aa (Af rfl) <| Aa (Cc rfl Tryz.underlying67 (Bu (s9.own_rd (.head _)))) <| Aa (Bw rfl rfl) <| Ad) fun _ F => Ai <| Ac <| Bm F rfl (fun hh => ?_) (fun hh => ?_)
 ·replace H := Bb hh H
  refine Ah <| Ak <| Aj F (Aa (Al rfl) <| Aa (Al rfl) <| Ad) fun _ F => Ai <| Ac ?_
  obtain rfl := An H
  refine Bd <| Bg ?_
  refine Av (rs := [.tmp 2, .tmp 3]) (vs := [.int .i64 0, .int .i64 51]) F (by rfl) ⟨_, _, rfl, Ay rfl, _, _, rfl, Ay rfl, rfl⟩ ⟨_, rfl, ⟨rfl, s9.drop⟩⟩
 replace H := Bc hh H
 refine Aw <| Ac <| Ah <| Ak ?_
 obtain ⟨x4, hi, H⟩ := Ap H
 obtain ⟨a2, hj, hk⟩ := Ch F_api_Instr s9 (.head _) Fx.sl67 rfl hi
 refine Aj F (Aa (Af rfl) <| Aa (Af rfl) <| Aa (Cc rfl Tryz.underlying67 (Bu (s9.own_rd (.head _)))) <| Aa (ex_sub rfl rfl) <| Aa (hj _ _ _ _ _ _ _ _ _ _ rfl rfl) <| Aa (Bj Fx.agg79 rfl (SL.elcells F_api_Instr s9 (.head _) hk hi) rfl) <| Ad) fun _ F => Bo F s9 Fx.zero79 rfl rfl fun g2 w7 _ F sa => ?_
 have sb := sa
 refine As F sb rfl rfl Fx.sz79 (Ae rfl (Ae rfl (Ae rfl (Ae rfl Ba)))) (Ag rfl) fun w8 _ F sc => ?_
 replace sc : SL w [] w8 [Blk g2 79 [.int .i64 x4.At, .int .u8 (x4.Op.toNat : Int), .int .i64 x4.A, .int .i64 x4.B], Sl T_api_Instr v2 x0.1] := sc
 refine Ai <| Ac <| Ah <| Ah <| Ak ?_
 obtain ⟨x5, hl, H⟩ := Ap H
 refine Aj F (Aa (Ax Fx.fa79_1 rfl rfl) <| Aa (Az Fx.nag5 rfl (sc.blk_cell (.head _) rfl)) <| Ad) fun _ F => Bk (args := [.tmp 58]) F Fx.fn31 rfl (code_Ends_c (a0 := x4.Op)    hl) rfl fun v5 w9 _ hm F => ?_
 obtain ⟨rfl, hn⟩ := hm
 have sd := sc.add hn
 refine Aj F (Aa (Da rfl) <| Ad) fun _ F => Ai <| Ac <| Bm F rfl (fun ho => ?_) (fun ho => ?_)
 ·replace H := Bb ho H
  refine Ah <| Ak <| Aj F (Aa (Ax Fx.fa79_0 rfl rfl) <| Aa (Az Fx.nag3 rfl (sd.blk_cell (.head _) rfl)) <| Aa (Al rfl) <| Aa (Al rfl) <| Ad) fun _ F => Ai <| Ac ?_
  obtain rfl := An H
  refine Bd <| Bg ?_
  refine Av (rs := [.tmp 2, .tmp 3]) (vs := [.int .i64 x4.At, .int .i64 51]) F (by rfl) ⟨_, _, rfl, Ay rfl, _, _, rfl, Ay rfl, rfl⟩ ⟨_, rfl, ⟨rfl, sd.drop.drop⟩⟩
 replace H := Bc ho H
 refine Aw <| Ac <| Ah <| Ak <| Aj F (Aa (Al rfl) <| Aa (Al rfl) <| Ad) fun _ F => Ai <| Ac ?_
 obtain rfl := An H
 refine Bd ?_
 refine Av (rs := [.tmp 2, .tmp 3]) (vs := [.int .i64 0, .int .i64 0]) F (by rfl) ⟨_, _, rfl, Ay rfl, _, _, rfl, Ay rfl, rfl⟩ ⟨_, rfl, ⟨rfl, sd.drop.drop⟩⟩
-- proviso/opt.items
theorem opt_items_c {w : World} {v0 : Value} {a0 : List UInt8} {r : (List S_opt_item)} (hr0 : Rd Ty.u8 w [] v0 a0) (H : opt_items a0 = some r) :
    Calls Tryz.prog 20 #[v0] w (Ret fun u_ w_ => ∃ u0 : Value, u_ = u0 ∧ SL w [] w_ [Sl T_opt_item u0 r]) := by
 have s0 : SL w [] w [] := SL.init0 w
 refine Bn Tryz.func20 rfl Tryz.ntmps20 (Ag rfl) (args := [v0]) fun q0 F0 => ?_
 unfold opt_items at H
 refine Ah <| Ak <| Aj F0 (Aa (Al rfl) <| Ad) fun q3 F4 => Ai <| Ac <| Ah <| Ak ?_
 obtain ⟨x0, h0, H⟩ := Ap H
 refine Aj F4 (Aa (Af rfl) <| Ad) fun _ F => Bk (args := [.tmp 14]) F Fx.fn28 rfl (flow_Scan_c (a0 := a0)   (hr0.pass0 s0) h0) rfl fun v1 w0 _ h1 F => ?_
 obtain ⟨v2, rfl, h2⟩ := h1
 have s1 := s0.add h2
 refine Aj F (Aa (Af rfl) <| Aa (Au (v := v2) rfl rfl) <| Aa (Au (v := .int .i64 x0.2.1) rfl rfl) <| Aa (Au (v := .int .i64 x0.2.2) rfl rfl) <| Aa (Al rfl) <| Aa (Al rfl) <| Aa (Al rfl) <| Ad) fun _ F => Ai <| Ac <| Ah <| Ak <| st_mkmap (Value.int .i64) (Value.int .i64) F s1 rfl fun g0 w1 _ F s2 => Aj F (Aa (Al rfl) <| Ad) fun _ F => Ai <| Ac <| Ah <| Ah <| Ak <| Aj F (Aa (Af rfl) <| Aa (Cc rfl Tryz.underlying67 (Bu (s2.own_rd (.tail _ <| .head _)))) <| Aa (Af rfl) <| Ad) fun _ F => Ai <| Ac ?_
 obtain ⟨o0, H0, R0⟩ := Ap H
 clear H
 refine Bx (fun a w_ => Fr a 54 [(3, v2), (6, .map (some g0))] ∧ SL w [] w_ [Mp (Value.int .i64) (Value.int .i64) g0 o0, Sl T_api_Instr v2 x0.1]) ?_ ?_
 ·have H := H0
  refine Bh <| Cu (opt_items_b0 x0) (fun s3 a w_ => Fr a 54 [(3, v2), (6, .map (some g0)), (20, v2), (21, .int .i64 (x0.1.length : Int)), (22, .int .i64 s3.2)] ∧ SL w [] w_ [Mp (Value.int .i64) (Value.int .i64) g0 s3.1, Sl T_api_Instr v2 x0.1]) H ?_ ?_
  ·exact ⟨F.sub ⟨rfl, rfl, rfl, rfl, rfl, trivial⟩, s2⟩
  intro s3 _ w2 h3 o1 H hr
  obtain ⟨F, s4⟩ := h3
  replace H : opt_items_b0 x0 s3 = some o1 := H
  unfold opt_items_b0 at H
  refine Ah <| Ak <| Aj F (Aa (Cr rfl rfl) <| Ad) fun _ F => Ai <| Ac <| Ah <| Bm F rfl (fun h4 => ?_) (fun h4 => ?_)
  ·replace H := Bb h4 H
   refine Aw <| Ac <| Ah <| Bh <| Ah <| Ak ?_
   obtain ⟨x1, h5, H⟩ := Ap H
   obtain ⟨a1, h6, h7⟩ := Ch F_api_Instr s4 (.tail _ <| .head _) Fx.sl67 rfl h5
   refine Aj F (Aa (Af rfl) <| Aa (h6 _ _ _ _ _ _ _ _ _ _ rfl rfl) <| Aa (Bj Fx.agg79 rfl (SL.elcells F_api_Instr s4 (.tail _ <| .head _) h7 h5) rfl) <| Ad) fun _ F => Bo F s4 Fx.zero79 rfl rfl fun g1 w3 _ F s5 => Aj F (Aa (Al rfl) <| Ad) fun _ F => ?_
   have s6 := s5
   refine As F s6 rfl rfl Fx.sz79 (Ae rfl (Ae rfl (Ae rfl (Ae rfl Ba)))) (Ag rfl) fun w4 _ F s7 => ?_
   replace s7 : SL w [] w4 [Blk g1 79 [.int .i64 x1.At, .int .u8 (x1.Op.toNat : Int), .int .i64 x1.A, .int .i64 x1.B], Mp (Value.int .i64) (Value.int .i64) g0 s3.1, Sl T_api_Instr v2 x0.1] := s7
   refine Ai <| Ac <| Ak <| Aj F (Aa (Af rfl) <| Aa (Ax Fx.fa79_0 rfl rfl) <| Aa (Az Fx.nag3 rfl (s7.blk_cell (.head _) rfl)) <| Aa (Af rfl) <| Ad) fun _ F => st_mapset (k := x1.At) (u := s3.2) F s7.f1 Tryz.underlying76 Fx.key3 rfl rfl rfl fun w5 _ F s8 => Ai <| Bz <| Ac <| Ak <| Aj F (Aa (Bq rfl rfl) <| Aa (Af rfl) <| Ad) fun _ F => Ai ?_
   obtain rfl := An H
   refine Ac ?_
   exact ⟨_, rfl, F.sub ⟨rfl, rfl, rfl, rfl, rfl, trivial⟩, s8.f1.drop⟩
  replace H := Bc h4 H
  refine Ca <| Bp <| Bp <| Cb ?_
  obtain rfl := An H
  obtain rfl := hr _ rfl
  refine Ac ?_
  exact ⟨F.sub ⟨rfl, rfl, trivial⟩, s4⟩
 intro _ w6 hJ
 obtain ⟨F, s9⟩ := hJ
 have H := R0
 clear R0 H0
 refine Ac <| Ah <| Ak <| Aj F (Aa (Al rfl) <| Ad) fun _ F => Ai <| Ac <| Ah <| Ah <| Ak <| Aj F (Aa (Af rfl) <| Aa (Cc rfl Tryz.underlying67 (Bu (s9.own_rd (.tail _ <| .head _)))) <| Aa (Af rfl) <| Ad) fun _ F => Ai <| Ac ?_
 obtain ⟨o2, H1, R1⟩ := Ap H
 clear H
 refine Bx (fun a w_ => ∃ v3 : Value, Fr a 54 [(9, v3)] ∧ SL w [] w_ [Sl T_opt_item v3 o2]) ?_ ?_
 ·have H := H1
  refine Bh <| Cu (opt_items_b1 x0 o0) (fun sa a w_ => ∃ v4 : Value, Fr a 54 [(6, .map (some g0)), (9, v4), (32, v2), (33, .int .i64 (x0.1.length : Int)), (34, .int .i64 sa.2)] ∧ SL w [] w_ [Mp (Value.int .i64) (Value.int .i64) g0 o0, Sl T_api_Instr v2 x0.1, Sl T_opt_item v4 sa.1]) H ?_ ?_
  ·exact ⟨(.slice none 0 0), F.sub ⟨rfl, rfl, rfl, rfl, rfl, trivial⟩, (SL.nilSl (T := T_opt_item) s9).f2.f2⟩
  intro sa _ w7 h8 o3 H hr
  obtain ⟨v4, F, sb⟩ := h8
  replace H : opt_items_b1 x0 o0 sa = some o3 := H
  unfold opt_items_b1 at H
  refine Ah <| Ak <| Aj F (Aa (Cr rfl rfl) <| Ad) fun _ F => Ai <| Ac <| Ah <| Bm F rfl (fun h9 => ?_) (fun h9 => ?_)
  ·replace H := Bb h9 H
   refine Aw <| Ac <| Ah <| Bh <| Ah <| Ak ?_
   obtain ⟨x2, ha, H⟩ := Ap H
   obtain ⟨a2, hb, hc⟩ := Ch F_api_Instr sb (.tail _ <| .head _) Fx.sl67 rfl ha
   refine Aj F (Aa (hb _ _ _ _ _ _ _ _ _ _ rfl rfl) <| Aa (Bj Fx.agg79 rfl (SL.elcells F_api_Instr sb (.tail _ <| .head _) hc ha) rfl) <| Ad) fun _ F => Bo F sb Fx.zero79 rfl rfl fun g2 w8 _ F sc => ?_
   have sd := sc
   refine As F sd rfl rfl Fx.sz79 (Ae rfl (Ae rfl (Ae rfl (Ae rfl Ba)))) (Ag rfl) fun w9 _ F se => ?_
   replace se : SL w [] w9 [Blk g2 79 [.int .i64 x2.At, .int .u8 (x2.Op.toNat : Int), .int .i64 x2.A, .int .i64 x2.B], Mp (Value.int .i64) (Value.int .i64) g0 o0, Sl T_api_Instr v2 x0.1, Sl T_opt_item v4 sa.1] := se
   refine Ai <| Ac <| Ah <| Ak <| Aj F (Aa (Bj Fx.agg79 rfl (se.blk_cells (.head _) (o := 0) (ds := [.int .i64 x2.At, .int .u8 (x2.Op.toNat : Int), .int .i64 x2.A, .int .i64 x2.B]) (fun j u hu => by rw [Nat.zero_add]; exact hu)) rfl) <| Aa (Cn (vs := [.agg ⟨[.int .i64 x2.At, .int .u8 (x2.Op.toNat : Int), .int .i64 x2.A, .int .i64 x2.B]⟩]) Fx.zero83 Fx.pl83 rfl (cs := [.int .i64 x2.At, .int .u8 (x2.Op.toNat : Int), .int .i64 x2.A, .int .i64 x2.B, .int .i64 0, .bool false]) (rfl)) <| Ad) fun _ F => Bo F se Fx.zero83 rfl rfl fun g3 wa _ F sf => ?_
   have sg := sf
   refine As F sg rfl rfl Fx.sz83 (Ae rfl (Ae rfl (Ae rfl (Ae rfl (Ae rfl (Ae rfl Ba)))))) (Ag rfl) fun wb _ F sh => ?_
   replace sh : SL w [] wb [Blk g3 83 [.int .i64 x2.At, .int .u8 (x2.Op.toNat : Int), .int .i64 x2.A, .int .i64 x2.B, .int .i64 0, .bool false], Blk g2 79 [.int .i64 x2.At, .int .u8 (x2.Op.toNat : Int), .int .i64 x2.A, .int .i64 x2.B], Mp (Value.int .i64) (Value.int .i64) g0 o0, Sl T_api_Instr v2 x0.1, Sl T_opt_item v4 sa.1] := sh
   refine Ai <| Ac <| Ah <| Ah <| Ak ?_
   obtain ⟨x3, hd, H⟩ := Ap H
   refine Aj F (Aa (Ax Fx.fa79_1 rfl rfl) <| Aa (Az Fx.nag5 rfl (sh.blk_cell (.tail _ <| .head _) rfl)) <| Ad) fun _ F => Bk (args := [.tmp 41]) F Fx.fn30 rfl (code_Jumps_c (a0 := x2.Op)    hd) rfl fun v5 wc _ he F => ?_
   obtain ⟨rfl, hf⟩ := he
   have si := sh.add hf
   refine Ai <| Ac <| Bm F rfl (fun hg => ?_) (fun hg => ?_)
   ·replace H := Bb hg H
    refine Ak <| Aj F (Aa (Af rfl) <| Aa (Ax Fx.fa79_2 rfl rfl) <| Aa (Az Fx.nag3 rfl (si.blk_cell (.tail _ <| .head _) rfl)) <| Aa (ex_lookup (k := x2.A) (z0 := (0 : Int)) si (.tail _ <| .tail _ <| .head _) Tryz.underlying76 Fx.key3 Fx.mz3 rfl rfl) <| Aa (Ax Fx.fa83_1 rfl rfl) <| Ad) fun _ F => ?_
    have sj := si
    refine Cq F sj rfl rfl Fx.sz3 rfl rfl rfl fun wd _ F sk => ?_
    replace sk : SL w [] wd [Blk g3 83 [.int .i64 x2.At, .int .u8 (x2.Op.toNat : Int), .int .i64 x2.A, .int .i64 x2.B, .int .i64 ((mget o0 x2.A).getD (0 : Int)), .bool false], Blk g2 79 [.int .i64 x2.At, .int .u8 (x2.Op.toNat : Int), .int .i64 x2.A, .int .i64 x2.B], Mp (Value.int .i64) (Value.int .i64) g0 o0, Sl T_api_Instr v2 x0.1, Sl T_opt_item v4 sa.1] := sk
    refine Ai <| Ac <| Ak <| Aj F (Aa (Af rfl) <| Aa (Bj Fx.agg83 rfl (sk.blk_cells (.head _) (o := 0) (ds := [.int .i64 x2.At, .int .u8 (x2.Op.toNat : Int), .int .i64 x2.A, .int .i64 x2.B, .int .i64 ((mget o0 x2.A).getD (0 : Int)), .bool false]) (fun j u hu => by rw [Nat.zero_add]; exact hu)) rfl) <| Ad) fun _ F => ?_
    refine Cs (parts := [(0, .tmp 49)]) F_opt_item ([(⟨(⟨x2.At, x2.Op, x2.A, x2.B⟩ : S_api_Instr), ((mget o0 x2.A).getD (0 : Int)), false⟩ : S_opt_item)] : List S_opt_item) F sk Fx.sl58 rfl (by decide) rfl rfl rfl (by simp [Value.cells]) rfl rfl rfl fun v6 we _ F sl => ?_
    obtain ⟨x4, hh, H⟩ := Ap H
    have sm := sl.f5
    obtain ⟨_, hr_⟩ := (sm.own_rd (.tail _ <| .head _))
    refine Ci F_opt_item F sm Fx.sl58 rfl rfl rfl rfl hr_ rfl rfl hh rfl fun v7 wf _ F sn => ?_
    have s10501' := sn.f1.drop
    refine Aj F (Aa (Al rfl) <| Ad) fun _ F => Ai <| Bz <| Ac <| Ak <| Aj F (Aa (Bq rfl rfl) <| Aa (Af rfl) <| Ad) fun _ F => Ai ?_
    obtain rfl := An H
    refine Ac ?_
    exact ⟨_, rfl, v7, F.sub ⟨rfl, rfl, rfl, rfl, rfl, trivial⟩, s10501'.f1.drop.f1.drop.f2.f2⟩
   replace H := Bc hg H
   refine Aw <| Ac <| Ak <| Aj F (Aa (Af rfl) <| Aa (Bj Fx.agg83 rfl (si.blk_cells (.head _) (o := 0) (ds := [.int .i64 x2.At, .int .u8 (x2.Op.toNat : Int), .int .i64 x2.A, .int .i64 x2.B, .int .i64 0, .bool false]) (fun j u hu => by rw [Nat.zero_add]; exact hu)) rfl) <| Ad) fun _ F => ?_
   refine Cs (parts := [(0, .tmp 49)]) F_opt_item ([(⟨(⟨x2.At, x2.Op, x2.A, x2.B⟩ : S_api_Instr), 0, false⟩ : S_opt_item)] : List S_opt_item) F si Fx.sl58 rfl (by decide) rfl rfl rfl (by simp [Value.cells]) rfl rfl rfl fun v8 wg _ F so => ?_
   obtain ⟨x5, hi, H⟩ := Ap H
   have sp := so.f5
   obtain ⟨_, hr_⟩ := (sp.own_rd (.tail _ <| .head _))
   refine Ci F_opt_item F sp Fx.sl58 rfl rfl rfl rfl hr_ rfl rfl hi rfl fun v9 wh _ F sq => ?_
   have s10521' := sq.f1.drop
   refine Aj F (Aa (Al rfl) <| Ad) fun _ F => Ai <| Bz <| Ac <| Ak <| Aj F (Aa (Bq rfl rfl) <| Aa (Af rfl) <| Ad) fun _ F => Ai ?_
   obtain rfl := An H
   refine Ac ?_
   exact ⟨_, rfl, v9, F.sub ⟨rfl, rfl, rfl, rfl, rfl, trivial⟩, s10521'.f1.drop.f1.drop.f2.f2⟩
  replace H := Bc h9 H
  refine Ca <| Bp <| Bp <| Cb ?_
  obtain rfl := An H
  obtain rfl := hr _ rfl
  refine Ac ?_
  exact ⟨v4, F.sub ⟨rfl, trivial⟩, sb.drop.drop⟩
 intro _ wi hJ
 obtain ⟨v3, F, sr⟩ := hJ
 have H := R1
 clear R1 H1
 refine Ac <| Ah <| Ak <| Aj F (Aa (Af rfl) <| Aa (Al rfl) <| Ad) fun _ F => Ai <| Ac ?_
 obtain rfl := An H
 refine Bd ?_
 refine Av (rs := [.tmp 2]) (vs := [v3]) F (by rfl) ⟨_, _, rfl, Ay rfl, rfl⟩ ⟨_, rfl, ⟨v3, rfl, sr⟩⟩
-- proviso/opt.rules
theorem opt_rules_c {w : World} {r : Unit}  (H : opt_rules = some r) :
    Calls Tryz.prog 21 #[] w (Ret fun u_ w_ => ∃ k0 : Nat, u_ = .slice (some ⟨k0, 0, none⟩) 5 5 ∧ SL w [] w_ [Blk k0 63 [clo 32 [], clo 33 [], clo 34 [], clo 35 [], clo 36 []]]) := by
 have s0 : SL w [] w [] := SL.init0 w
 refine Bn Tryz.func21 rfl Tryz.ntmps21 (Ag rfl) (args := []) fun q0 F0 => ?_
 unfold opt_rules at H
 refine Ah <| Ak <| Aj F0 (Aa (Al rfl) <| Ad) fun q3 F4 => Ai <| Ac <| Ah <| Ak ?_
 refine st_bsliceb (parts := [(0, .func 32), (1, .func 33), (2, .func 34), (3, .func 35), (4, .func 36)]) (vs := [clo 32 [], clo 33 [], clo 34 [], clo 35 [], clo 36 []]) F4 s0 Fx.sl60 rfl (by decide) rfl rfl rfl (one_cells_all (cells1_cons rfl (cells1_cons rfl (cells1_cons rfl (cells1_cons rfl (cells1_cons rfl cells1_nil)))))) rfl fun g0 w0 _ F s1 => ?_
 refine Aj F (Aa (Al rfl) <| Ad) fun _ F => Ai <| Ac ?_
 obtain rfl := An H
 refine Bd ?_
 refine Av (rs := [.tmp 0]) (vs := [.slice (some ⟨g0, 0, none⟩) 5 5]) F (by rfl) ⟨_, _, rfl, Ay rfl, rfl⟩ ⟨_, rfl, ⟨g0, rfl, s1⟩⟩
-- proviso/code.fits
theorem code_fits_c {w : World} {a0 : UInt8} {a1 : Int} {a2 : Int} {r : Bool}  (H : code_fits a0 a1 a2 = some r) :
    Calls Tryz.prog 58 #[.int .u8 (a0.toNat : Int), .int .i64 a1, .int .i64 a2] w (Ret fun u_ w_ => u_ = .bool r ∧ SL w [] w_ []) := by
 have s0 : SL w [] w [] := SL.init0 w
 refine Bn Tryz.func58 rfl Tryz.ntmps58 (Ag rfl) (args := [.int .u8 (a0.toNat : Int), .int .i64 a1, .int .i64 a2]) fun q0 F0 => ?_
 unfold code_fits at H
 refine Ah <| Ak <| Aj F0 (Aa (Al rfl) <| Ad) fun q3 F4 => Ai <| Ac <| Ah <| Ah <| Ak <| Aj F4 (Aa (Af rfl) <| Ad) fun _ F => Ai <| Ac <| Bh <| Ah <| Ak <| Aj F (Aa (Bw rfl rfl) <| Aa (Al rfl) <| Ad) fun _ F => Ai <| Ac <| Bm F rfl (fun h0 => ?_) (fun h0 => ?_)
 ·replace H := Bb h0 H
  refine Ah <| Ak <| Aj F (Aa (Af rfl) <| Aa (Bw rfl rfl) <| Aa (Al rfl) <| Ad) fun _ F => Ai <| Ac ?_
  obtain rfl := An H
  refine Bd <| blk_r <| Bg ?_
  refine Av (rs := [.tmp 6]) (vs := [.bool (a1 == 0)]) F (by rfl) ⟨_, _, rfl, Ay rfl, rfl⟩ ⟨_, rfl, ⟨rfl, s0⟩⟩
 replace H := Bc h0 H
 refine Ah <| Ak <| Aj F (Aa (Bw rfl rfl) <| Aa (Al rfl) <| Ad) fun _ F => Ai <| Ac <| Bm F rfl (fun h1 => ?_) (fun h1 => ?_)
 ·replace H := Bb h1 H
  refine Ah <| Ak <| Aj F (Aa (Af rfl) <| Aa (ex_ge rfl rfl) <| Aa (Af rfl) <| Ad) fun _ F => Bl (decide (a1 ≥ 0)) (fun h2 => ?_) (fun h2 => ?_)
  ·replace H := Bb h2 H
   refine Aq F rfl rfl (Am rfl h2) (Af rfl) rfl rfl fun _ F => Aq F rfl rfl (Am rfl h2) (ex_le rfl rfl) rfl rfl fun _ F => Aj F (Aa (Bf (By rfl h2) rfl) <| Aa (Af rfl) <| Ad) fun _ F => Bl (decide (a1 ≤ 255)) (fun h3 => ?_) (fun h3 => ?_)
   ·replace H := Bb h3 H
    refine Aq F rfl rfl (Am rfl h3) (Af rfl) rfl rfl fun _ F => Aq F rfl rfl (Am rfl h3) (De rfl rfl) rfl rfl fun _ F => Aq F rfl rfl (Am rfl h3) (Af rfl) rfl rfl fun _ F => Bl ((a0.toNat : Int) != 2) (fun h4 => ?_) (fun h4 => ?_)
    ·replace H := Bb h4 H
     refine Ao F rfl rfl (Am rfl h4) Ab rfl rfl fun _ F => Ao F rfl rfl (Am rfl h4) Ab rfl rfl fun _ F => Aq F rfl rfl (Am rfl h3) (Bf (By rfl h4) rfl) rfl rfl fun _ F => Aj F (Aa (Bf (By rfl h3) rfl) <| Aa (Al rfl) <| Ad) fun _ F => Ai <| Ac ?_
     obtain rfl := An H
     refine Bd <| blk_r <| Bg ?_
     refine Av (rs := [.tmp 6]) (vs := [.bool true]) F (by rfl) ⟨_, _, rfl, Ay rfl, rfl⟩ ⟨_, rfl, ⟨rfl, s0⟩⟩
    replace H := Bc h4 H
    refine Aq F rfl rfl (Am rfl h4) (Af rfl) rfl rfl fun _ F => Aq F rfl rfl (Am rfl h4) (ex_le rfl rfl) rfl rfl fun _ F => Aq F rfl rfl (Am rfl h3) (Bi (By rfl h4) rfl) rfl rfl fun _ F => Aj F (Aa (Bf (By rfl h3) rfl) <| Aa (Al rfl) <| Ad) fun _ F => Ai <| Ac ?_
    obtain rfl := An H
    refine Bd <| blk_r <| Bg ?_
    refine Av (rs := [.tmp 6]) (vs := [.bool (decide (a1 ≤ 1))]) F (by rfl) ⟨_, _, rfl, Ay rfl, rfl⟩ ⟨_, rfl, ⟨rfl, s0⟩⟩
   replace H := Bc h3 H
   refine Ao F rfl rfl (Am rfl h3) Ab rfl rfl fun _ F => Ao F rfl rfl (Am rfl h3) Ab rfl rfl fun _ F => Ao F rfl rfl (Am rfl h3) Ab rfl rfl fun _ F => Cf F rfl rfl rfl rfl rfl fun _ F => Cf F rfl rfl rfl rfl rfl fun _ F => Ao F rfl rfl (Am rfl h3) Ab rfl rfl fun _ F => Aj F (Aa (Bi (By rfl h3) rfl) <| Aa (Al rfl) <| Ad) fun _ F => Ai <| Ac ?_
   obtain rfl := An H
   refine Bd <| blk_r <| Bg ?_
   refine Av (rs := [.tmp 6]) (vs := [.bool false]) F (by rfl) ⟨_, _, rfl, Ay rfl, rfl⟩ ⟨_, rfl, ⟨rfl, s0⟩⟩
  replace H := Bc h2 H
  refine Ao F rfl rfl (Am rfl h2) Ab rfl rfl fun _ F => Ao F rfl rfl (Am rfl h2) Ab rfl rfl fun _ F => Aj F (Aa (Bi (By rfl h2) rfl) <| Aa (Af rfl) <| Ad) fun _ F => Ao F rfl rfl rfl Ab rfl rfl fun _ F => Ao F rfl rfl rfl Ab rfl rfl fun _ F => Ao F rfl rfl rfl Ab rfl rfl fun _ F => Cf F rfl rfl rfl rfl rfl fun _ F => Cf F rfl rfl rfl rfl rfl fun _ F => Ao F rfl rfl rfl Ab rfl rfl fun _ F => Aj F (Aa (Bi rfl rfl) <| Aa (Al rfl) <| Ad) fun _ F => Ai <| Ac ?_
  obtain rfl := An H
  refine Bd <| blk_r <| Bg ?_
  refine Av (rs := [.tmp 6]) (vs := [.bool false]) F (by rfl) ⟨_, _, rfl, Ay rfl, rfl⟩ ⟨_, rfl, ⟨rfl, s0⟩⟩
 replace H := Bc h1 H
 refine Ah <| Ak <| Aj F (Aa (Bw rfl rfl) <| Aa (Al rfl) <| Ad) fun _ F => Ai <| Ac <| Bm F rfl (fun h5 => ?_) (fun h5 => ?_)
 ·replace H := Bb h5 H
  refine Ah <| Ak <| Aj F (Aa (Af rfl) <| Aa (ex_ge rfl rfl) <| Aa (Af rfl) <| Ad) fun _ F => Bl (decide (a1 ≥ 0)) (fun h6 => ?_) (fun h6 => ?_)
  ·replace H := Bb h6 H
   refine Aq F rfl rfl (Am rfl h6) (Af rfl) rfl rfl fun _ F => Aq F rfl rfl (Am rfl h6) (ex_le rfl rfl) rfl rfl fun _ F => Aj F (Aa (Bf (By rfl h6) rfl) <| Aa (Al rfl) <| Ad) fun _ F => Ai <| Ac ?_
   obtain rfl := An H
   refine Bd <| blk_r <| Bg ?_
   refine Av (rs := [.tmp 6]) (vs := [.bool (decide (a1 ≤ 65535))]) F (by rfl) ⟨_, _, rfl, Ay rfl, rfl⟩ ⟨_, rfl, ⟨rfl, s0⟩⟩
  replace H := Bc h6 H
  refine Ao F rfl rfl (Am rfl h6) Ab rfl rfl fun _ F => Ao F rfl rfl (Am rfl h6) Ab rfl rfl fun _ F => Aj F (Aa (Bi (By rfl h6) rfl) <| Aa (Al rfl) <| Ad) fun _ F => Ai <| Ac ?_
  obtain rfl := An H
  refine Bd <| blk_r <| Bg ?_
  refine Av (rs := [.tmp 6]) (vs := [.bool false]) F (by rfl) ⟨_, _, rfl, Ay rfl, rfl⟩ ⟨_, rfl, ⟨rfl, s0⟩⟩
 replace H := Bc h5 H
 refine Aw <| Bz <| Ac <| Ah <| Ak <| Aj F (Aa (Af rfl) <| Aa (ex_ge rfl rfl) <| Aa (Af rfl) <| Ad) fun _ F => Bl (decide (a1 ≥ (-2147483648))) (fun h7 => ?_) (fun h7 => ?_)
 ·replace H := Bb h7 H
  refine Aq F rfl rfl (Am rfl h7) (Af rfl) rfl rfl fun _ F => Aq F rfl rfl (Am rfl h7) (ex_le rfl rfl) rfl rfl fun _ F => Aj F (Aa (Bf (By rfl h7) rfl) <| Aa (Al rfl) <| Ad) fun _ F => Ai <| Ac ?_
  obtain rfl := An H
  refine Bd ?_
  refine Av (rs := [.tmp 6]) (vs := [.bool (decide (a1 ≤ 2147483647))]) F (by rfl) ⟨_, _, rfl, Ay rfl, rfl⟩ ⟨_, rfl, ⟨rfl, s0⟩⟩
 replace H := Bc h7 H
 refine Ao F rfl rfl (Am rfl h7) Ab rfl rfl fun _ F => Ao F rfl rfl (Am rfl h7) Ab rfl rfl fun _ F => Aj F (Aa (Bi (By rfl h7) rfl) <| Aa (Al rfl) <| Ad) fun _ F => Ai <| Ac ?_
 obtain rfl := An H
 refine Bd ?_
 refine Av (rs := [.tmp 6]) (vs := [.bool false]) F (by rfl) ⟨_, _, rfl, Ay rfl, rfl⟩ ⟨_, rfl, ⟨rfl, s0⟩⟩
-- proviso/code.put
theorem code_put_c {w : World} {FF : List Nat} {v0 : Value} {a0 : List UInt8} {a1 : Int} {a2 : Int} {r : (List UInt8)} (hst : Star [Sl Ty.u8 v0 a0] w FF)  (H : code_put a0 a1 a2 = some r) :
    Calls Tryz.prog 59 #[v0, .int .i64 a1, .int .i64 a2] w (Ret fun u_ w_ => ∃ u0 : Value, u_ = u0 ∧ SL w FF w_ [Sl Ty.u8 u0 r]) := by
 have s0 : SL w FF w [Sl Ty.u8 v0 a0] := SL.init w FF hst
 refine Bn Tryz.func59 rfl Tryz.ntmps59 (Ag rfl) (args := [v0, .int .i64 a1, .int .i64 a2]) fun q0 F0 => ?_
 unfold code_put at H
 refine Ah <| Ak <| Aj F0 (Aa (Al rfl) <| Ad) fun q3 F4 => Ai <| Ac <| Ah <| Ah <| Ak <| Aj F4 (Aa (Af rfl) <| Aa (ex_sub rfl rfl) <| Aa (Al rfl) <| Ad) fun _ F => Ai <| Ac ?_
 obtain ⟨o0, H0, R0⟩ := Ap H
 clear H
 refine Bx (fun a w_ => ∃ v1 : Value, Fr a 23 [(0, v1)] ∧ SL w FF w_ [Sl Ty.u8 v1 o0]) ?_ ?_
 ·have H := H0
  refine Bh <| Cu (code_put_b0 a1) (fun s1 a w_ => ∃ v2 : Value, Fr a 23 [(0, v2), (1, .int .i64 a1), (7, .int .i64 s1.2)] ∧ SL w FF w_ [Sl Ty.u8 v2 s1.1]) H ?_ ?_
  ·exact ⟨v0, F.sub ⟨rfl, rfl, rfl, trivial⟩, s0⟩
  intro s1 _ w0 h0 o1 H hr
  obtain ⟨v2, F, s2⟩ := h0
  replace H : code_put_b0 a1 s1 = some o1 := H
  unfold code_put_b0 at H
  refine Ah <| Ah <| Ak <| Aj F (Aa (Af rfl) <| Aa (ex_ge rfl rfl) <| Ad) fun _ F => Ai <| Ac <| Bm F rfl (fun h1 => ?_) (fun h1 => ?_)
  ·replace H := Bb h1 H
   refine Aw <| Ac <| Ah <| Bh <| Ak ?_
   obtain ⟨h2, H⟩ := none_else H
   refine Aj F (Aa (Af rfl) <| Aa (Af rfl) <| Aa (Af rfl) <| Aa (ex_mul rfl rfl) <| Aa (ex_shr rfl rfl h2) <| Aa (ex_cv8 rfl Tryz.underlying3 Tryz.underlying5) <| Ad) fun _ F => ?_
   refine Cs (parts := [(0, .tmp 19)]) Flat.u8 ([toU8 (sShr .i64 a1 (wr (8 * s1.2)))] : List UInt8) F s2 Fx.sl38 rfl (by decide) rfl rfl rfl (by simp [Value.cells]) rfl rfl rfl fun v3 w1 _ F s3 => ?_
   obtain ⟨x0, h3, H⟩ := Ap H
   have s4 := s3.f1
   obtain ⟨_, hr_⟩ := (s4.own_rd (.tail _ <| .head _))
   refine Ci Flat.u8 F s4 Fx.sl38 rfl rfl rfl rfl hr_ rfl rfl h3 rfl fun v4 w2 _ F s5 => ?_
   have s1323' := s5.f1.drop
   refine Aj F (Aa (Al rfl) <| Ad) fun _ F => Ai <| Bz <| Ac <| Ak <| Aj F (Aa (Af rfl) <| Aa (ex_sub rfl rfl) <| Aa (Al rfl) <| Ad) fun _ F => Ai ?_
   obtain rfl := An H
   refine Ac ?_
   exact ⟨_, rfl, v4, F.sub ⟨rfl, rfl, rfl, trivial⟩, s1323'⟩
  replace H := Bc h1 H
  refine Ca <| Bp <| Bp <| Cb ?_
  obtain rfl := An H
  obtain rfl := hr _ rfl
  refine Ac ?_
  exact ⟨v2, F.sub ⟨rfl, trivial⟩, s2⟩
 intro _ w3 hJ
 obtain ⟨v1, F, s6⟩ := hJ
 have H := R0
 clear R0 H0
 refine Ac <| Ah <| Ak <| Aj F (Aa (Af rfl) <| Aa (Al rfl) <| Ad) fun _ F => Ai <| Ac ?_
 obtain rfl := An H
 refine Bd ?_
 refine Av (rs := [.tmp 6]) (vs := [v1]) F (by rfl) ⟨_, _, rfl, Ay rfl, rfl⟩ ⟨_, rfl, ⟨v1, rfl, s6⟩⟩
-- proviso/code.Encode
theorem code_Encode_c {w : World} {a0 : S_api_Instr} {r : (List UInt8) × Int}  (H : code_Encode a0 = some r) :
    Calls Tryz.prog 37 #[.agg ⟨[.int .i64 a0.At, .int .u8 (a0.Op.toNat : Int), .int .i64 a0.A, .int .i64 a0.B]⟩] w (Ret fun u_ w_ => ∃ u0 : Value, u_ = .tuple ⟨[u0, .int .i64 r.2]⟩ ∧ SL w [] w_ [Sl Ty.u8 u0 r.1]) := by
 have s0 : SL w [] w [] := SL.init0 w
 refine Bn Tryz.func37 rfl Tryz.ntmps37 (Ag rfl) (args := [.agg ⟨[.int .i64 a0.At, .int .u8 (a0.Op.toNat : Int), .int .i64 a0.A, .int .i64 a0.B]⟩]) fun q0 F0 => ?_
 unfold code_Encode at H
 refine Ah <| Ak <| Db F0 s0 rfl rfl rfl fun g9 w0 _ F s1 => Aj F (Aa (Al rfl) <| Aa (Al rfl) <| Ad) fun _ F => Ai <| Ac <| Ah <| Ah <| Ak ?_
 obtain ⟨x0, h0, H⟩ := Ap H
 refine Aj F (Aa (Ax Fx.fa79_1 rfl rfl) <| Aa (Az Fx.nag5 rfl (s1.blk_cell (.head _) rfl)) <| Ad) fun _ F => Bk (args := [.tmp 7]) F Fx.fn38 rfl (code_Size_c (a0 := a0.Op)    h0) rfl fun v0 w1 _ h1 F => ?_
 obtain ⟨rfl, h2⟩ := h1
 have s2 := s1.add h2
 refine Aj F (Aa (Bw rfl rfl) <| Ad) fun _ F => Ai <| Ac <| Bm F rfl (fun h3 => ?_) (fun h3 => ?_)
 ·replace H := Bb h3 H
  refine Ah <| Ak <| Aj F (Aa (Al rfl) <| Aa (Al rfl) <| Ad) fun _ F => Ai <| Ac ?_
  obtain rfl := An H
  refine Bd <| Bg ?_
  refine Av (rs := [.tmp 2, .tmp 3]) (vs := [.slice none 0 0, .int .i64 40]) F (by rfl) ⟨_, _, rfl, Ay rfl, _, _, rfl, Ay rfl, rfl⟩ ⟨_, rfl, ⟨(.slice none 0 0), rfl, (SL.nilSl (T := Ty.u8) s2).f1.drop⟩⟩
 replace H := Bc h3 H
 refine Aw <| Ac <| Ah <| Ak ?_
 obtain ⟨x1, h4, H⟩ := Ap H
 refine Aj F (Aa (Ax Fx.fa79_1 rfl rfl) <| Aa (Az Fx.nag5 rfl (s2.blk_cell (.head _) rfl)) <| Ad) fun _ F => Bk (args := [.tmp 12]) F Fx.fn57 rfl (code_widths_c (a0 := a0.Op)    h4) rfl fun v1 w2 _ h5 F => ?_
 obtain ⟨rfl, h6⟩ := h5
 have s3 := s2.add h6
 refine Aj F (Aa (Af rfl) <| Aa (Au (v := .int .i64 x1.1) rfl rfl) <| Aa (Au (v := .int .i64 x1.2) rfl rfl) <| Aa (Al rfl) <| Aa (Al rfl) <| Ad) fun _ F => Ai <| Ac <| Ah <| Ah <| Ak ?_
 obtain ⟨x2, h7, H⟩ := Ap H
 refine Aj F (Aa (Ax Fx.fa79_1 rfl rfl) <| Aa (Az Fx.nag5 rfl (s3.blk_cell (.head _) rfl)) <| Aa (Ax Fx.fa79_2 rfl rfl) <| Aa (Az Fx.nag3 rfl (s3.blk_cell (.head _) rfl)) <| Aa (Af rfl) <| Ad) fun _ F => Bk (args := [.tmp 17, .tmp 19, .tmp 20]) F Fx.fn58 rfl (code_fits_c (a0 := a0.Op) (a1 := a0.A) (a2 := x1.1)    h7) rfl fun v2 w3 _ h8 F => ?_
 obtain ⟨rfl, h9⟩ := h8
 have s4 := s3.add h9
 refine Aj F (Aa (Da rfl) <| Aa (Af rfl) <| Ad) fun _ F => Bl (!x2) (fun ha => ?_) (fun ha => ?_)
 ·replace H := Bb ha H
  refine Ao F rfl rfl (Am rfl ha) Ab rfl rfl fun _ F => Ao F rfl rfl (Am rfl ha) Ab rfl rfl fun _ F => Ao F rfl rfl (Am rfl ha) Ab rfl rfl fun _ F => Ao F rfl rfl (Am rfl ha) Ab rfl rfl fun _ F => Ao F rfl rfl (Am rfl ha) Ab rfl rfl fun _ F => Ao F rfl rfl (Am rfl ha) Ab rfl rfl fun _ F => Ao F rfl rfl (Am rfl ha) Ab rfl rfl fun _ F => Aj F (Aa (Bf (By rfl ha) rfl) <| Ad) fun _ F => Ai <| Ac <| Cz F rfl <| Ah <| Ak <| Aj F (Aa (Al rfl) <| Aa (Al rfl) <| Ad) fun _ F => Ai <| Ac ?_
  obtain rfl := An H
  refine Bd <| Bg ?_
  refine Av (rs := [.tmp 2, .tmp 3]) (vs := [.slice none 0 0, .int .i64 5]) F (by rfl) ⟨_, _, rfl, Ay rfl, _, _, rfl, Ay rfl, rfl⟩ ⟨_, rfl, ⟨(.slice none 0 0), rfl, (SL.nilSl (T := Ty.u8) s4).f1.drop⟩⟩
 replace H := Bc ha H
 refine Aq F rfl rfl (Am rfl ha) (Ax Fx.fa79_1 rfl rfl) rfl rfl fun _ F => Aq F rfl rfl (Am rfl ha) (Az Fx.nag5 rfl (s4.blk_cell (.head _) rfl)) rfl rfl fun _ F => Aq F rfl rfl (Am rfl ha) (Ax Fx.fa79_3 rfl rfl) rfl rfl fun _ F => Aq F rfl rfl (Am rfl ha) (Az Fx.nag3 rfl (s4.blk_cell (.head _) rfl)) rfl rfl fun _ F => Aq F rfl rfl (Am rfl ha) (Af rfl) rfl rfl fun _ F => ?_
 obtain ⟨x3, hb, H⟩ := Ap H
 refine st_ungd F rfl (Am rfl ha) <| Bk (args := [.tmp 25, .tmp 27, .tmp 28]) F Fx.fn58 rfl (code_fits_c (a0 := a0.Op) (a1 := a0.B) (a2 := x1.2)    hb) rfl fun v3 w4 _ hc F => ?_
 obtain ⟨rfl, hd⟩ := hc
 have s5 := s4.add hd
 refine Aq F rfl rfl (Am rfl ha) (Da rfl) rfl rfl fun _ F => Aj F (Aa (Bi (By rfl ha) rfl) <| Ad) fun _ F => Ai <| Ac <| Bm F rfl (fun he => ?_) (fun he => ?_)
 ·replace H := Bb he H
  refine Ah <| Ak <| Aj F (Aa (Al rfl) <| Aa (Al rfl) <| Ad) fun _ F => Ai <| Ac ?_
  obtain rfl := An H
  refine Bd <| Bg ?_
  refine Av (rs := [.tmp 2, .tmp 3]) (vs := [.slice none 0 0, .int .i64 5]) F (by rfl) ⟨_, _, rfl, Ay rfl, _, _, rfl, Ay rfl, rfl⟩ ⟨_, rfl, ⟨(.slice none 0 0), rfl, (SL.nilSl (T := Ty.u8) s5).f1.drop⟩⟩
 replace H := Bc he H
 refine Aw <| Ac <| Ah ?_
 obtain ⟨x4, hf, H⟩ := Ap H
 obtain ⟨x5, hg, H⟩ := Ap H
 refine Dj Fx.mixed (fun w_ => SL w [] w_ [Blk g9 79 [.int .i64 a0.At, .int .u8 (a0.Op.toNat : Int), .int .i64 a0.A, .int .i64 a0.B]]) ?_
 have s6 := s5.drew
 have s7 : SL w [] _ [Blk g9 79 [.int .i64 a0.At, .int .u8 (a0.Op.toNat : Int), .int .i64 a0.A, .int .i64 a0.B]] := s6
 refine Bv (i := 0) rfl (by kernel_rfl) (by kernel_rfl) (by kernel_rfl) (fun _ hC => Ax Fx.fa79_1 rfl rfl) rfl rfl rfl F s7 fun _ F => ?_
 refine Bv (i := 1) rfl (by kernel_rfl) (by kernel_rfl) (by kernel_rfl) (fun _ hC => Az Fx.nag5 rfl (hC.blk_cell (.head _) rfl)) rfl rfl rfl F s7 fun _ F => ?_
 refine Bv (i := 3) rfl (by kernel_rfl) (by kernel_rfl) (by kernel_rfl) (fun _ hC => Ax Fx.fa79_2 rfl rfl) rfl rfl rfl F s7 fun _ F => ?_
 refine Bv (i := 4) rfl (by kernel_rfl) (by kernel_rfl) (by kernel_rfl) (fun _ hC => Az Fx.nag3 rfl (hC.blk_cell (.head _) rfl)) rfl rfl rfl F s7 fun _ F => ?_
 refine Bv (i := 5) rfl (by kernel_rfl) (by kernel_rfl) (by kernel_rfl) (fun _ hC => Af rfl) rfl rfl rfl F s7 fun _ F => ?_
 refine Bv (i := 7) rfl (by kernel_rfl) (by kernel_rfl) (by kernel_rfl) (fun _ hC => Ax Fx.fa79_3 rfl rfl) rfl rfl rfl F s7 fun _ F => ?_
 refine Bv (i := 8) rfl (by kernel_rfl) (by kernel_rfl) (by kernel_rfl) (fun _ hC => Az Fx.nag3 rfl (hC.blk_cell (.head _) rfl)) rfl rfl rfl F s7 fun _ F => ?_
 refine Bv (i := 9) rfl (by kernel_rfl) (by kernel_rfl) (by kernel_rfl) (fun _ hC => Af rfl) rfl rfl rfl F s7 fun _ F => ?_
 refine Be (i := 2) rfl (by kernel_rfl) ?_
 refine Cs (parts := [(0, .tmp 33)]) Flat.u8 ([a0.Op] : List UInt8) F s6 Fx.sl38 rfl (by decide) rfl rfl rfl (by simp [Value.cells]) rfl rfl rfl fun v4 w5 _ F s8 => ?_
 have s9 : SL w [] _ [Blk g9 79 [.int .i64 a0.At, .int .u8 (a0.Op.toNat : Int), .int .i64 a0.A, .int .i64 a0.B]] := s8.drop
 refine Ar ⟨s9, ?_⟩
 refine Be (i := 6) rfl (by kernel_rfl) ?_
 have sa := s8
 obtain ⟨G0, hh, hi, hj, hk⟩ := SL.open_ (ps := [Sl Ty.u8 v4 ([a0.Op] : List UInt8)]) (rest := [Blk g9 79 [.int .i64 a0.At, .int .u8 (a0.Op.toNat : Int), .int .i64 a0.A, .int .i64 a0.B]]) sa
 refine Bk (args := [.tmp 34, .tmp 36, .tmp 37]) F Fx.fn59 rfl (code_put_c (a0 := ([a0.Op] : List UInt8)) (a1 := a0.A) (a2 := x1.1) hh   hf) rfl fun v5 w6 _ hl F => ?_
 obtain ⟨_, rfl, hm⟩ := hl
 have sb := hk _ _ hm
 have sc : SL w [] _ [Blk g9 79 [.int .i64 a0.At, .int .u8 (a0.Op.toNat : Int), .int .i64 a0.A, .int .i64 a0.B]] := sb.drop
 refine Ar ⟨sc, ?_⟩
 refine Be (i := 10) rfl (by kernel_rfl) ?_
 have sd := sb
 obtain ⟨G1, hn, ho, hp, hq⟩ := SL.open_ (ps := [Sl Ty.u8 v5 x4]) (rest := [Blk g9 79 [.int .i64 a0.At, .int .u8 (a0.Op.toNat : Int), .int .i64 a0.A, .int .i64 a0.B]]) sd
 refine Bk (args := [.tmp 38, .tmp 40, .tmp 41]) F Fx.fn59 rfl (code_put_c (a0 := x4) (a1 := a0.B) (a2 := x1.2) hn   hg) rfl fun v6 w7 _ hr F => ?_
 obtain ⟨_, rfl, hs⟩ := hr
 have se := hq _ _ hs
 have sf : SL w [] _ [Blk g9 79 [.int .i64 a0.At, .int .u8 (a0.Op.toNat : Int), .int .i64 a0.A, .int .i64 a0.B]] := se.drop
 refine Ar ⟨sf, ?_⟩
 refine Be (i := 11) rfl (by kernel_rfl) ?_
 refine Bt F (Al rfl) rfl rfl rfl fun _ F => ?_
 have sg : SL w [] _ [Blk g9 79 [.int .i64 a0.At, .int .u8 (a0.Op.toNat : Int), .int .i64 a0.A, .int .i64 a0.B]] := se.drop
 refine Ar ⟨sg, ?_⟩
 refine Be (i := 12) rfl (by kernel_rfl) ?_
 refine Bt F (Al rfl) rfl rfl rfl fun _ F => ?_
 have sh : SL w [] _ [Blk g9 79 [.int .i64 a0.At, .int .u8 (a0.Op.toNat : Int), .int .i64 a0.A, .int .i64 a0.B]] := se.drop
 refine Ar ⟨sh, ?_⟩
 refine Ce (by kernel_rfl) ?_
 refine Ac ?_
 obtain rfl := An H
 refine Bd ?_
 refine Av (rs := [.tmp 2, .tmp 3]) (vs := [v6, .int .i64 0]) F (by rfl) ⟨_, _, rfl, Ay rfl, _, _, rfl, Ay rfl, rfl⟩ ⟨_, rfl, ⟨v6, rfl, se.f1.drop⟩⟩
-- proviso/code.All
theorem code_All_c {w : World} {v0 : Value} {a0 : List S_api_Instr} {r : (List UInt8) × Int × Int} (hr0 : Rd T_api_Instr w [] v0 a0) (H : code_All a0 = some r) :
    Calls Tryz.prog 22 #[v0] w (Ret fun u_ w_ => ∃ u0 : Value, u_ = .tuple ⟨[u0, .int .i64 r.2.1, .int .i64 r.2.2]⟩ ∧ SL w [] w_ [Sl Ty.u8 u0 r.1]) := by
 have s0 : SL w [] w [] := SL.init0 w
 refine Bn Tryz.func22 rfl Tryz.ntmps22 (Ag rfl) (args := [v0]) fun q0 F0 => ?_
 unfold code_All at H
 refine Ah <| Ak <| Aj F0 (Aa (Al rfl) <| Aa (Al rfl) <| Aa (Al rfl) <| Ad) fun q3 F4 => Ai <| Ac <| Ah <| Ak <| Aj F4 (Aa (Al rfl) <| Ad) fun q7 F8 => Ai <| Ac <| Ah <| Ah <| Ak <| Aj F8 (Aa (Af rfl) <| Aa (Cc rfl Tryz.underlying67 (Bu (Cv hr0 s0))) <| Aa (Af rfl) <| Ad) fun _ F => Ai <| Ac ?_
 obtain ⟨o0, H0, R0⟩ := Ap H
 clear H
 refine Bx (fun a w_ => ∃ p0 : (List UInt8), o0 = .inr (p0) ∧ ∃ v1 : Value, Fr a 41 [(5, v1)] ∧ SL w [] w_ [Sl Ty.u8 v1 p0]) ?_ ?_
 ·have H := H0
  refine Bh <| Cu (code_All_b0 a0) (fun s1 a w_ => ∃ v2 : Value, Fr a 41 [(5, v2), (10, v0), (11, .int .i64 (a0.length : Int)), (12, .int .i64 s1.2)] ∧ SL w [] w_ [Sl Ty.u8 v2 s1.1]) H ?_ ?_
  ·exact ⟨(.slice none 0 0), F.sub ⟨rfl, rfl, rfl, rfl, trivial⟩, (SL.nilSl (T := Ty.u8) s0)⟩
  intro s1 _ w0 h0 o1 H hr
  obtain ⟨v2, F, s2⟩ := h0
  replace H : code_All_b0 a0 s1 = some o1 := H
  unfold code_All_b0 at H
  refine Ah <| Ak <| Aj F (Aa (Cr rfl rfl) <| Ad) fun _ F => Ai <| Ac <| Ah <| Bm F rfl (fun h1 => ?_) (fun h1 => ?_)
  ·replace H := Bb h1 H
   refine Aw <| Ac <| Ah <| Bh <| Ah <| Ak ?_
   obtain ⟨x0, h2, H⟩ := Ap H
   obtain ⟨a1, h3, h4⟩ := Dg F_api_Instr (Cv hr0 s2) Fx.sl67 rfl h2
   refine Aj F (Aa (Af rfl) <| Aa (h3 _ _ _ _ _ _ _ _ _ _ rfl rfl) <| Aa (Bj Fx.agg79 rfl h4 rfl) <| Ad) fun _ F => Bo F s2 Fx.zero79 rfl rfl fun g0 w1 _ F s3 => Aj F (Aa (Al rfl) <| Ad) fun _ F => ?_
   have s4 := s3
   refine As F s4 rfl rfl Fx.sz79 (Ae rfl (Ae rfl (Ae rfl (Ae rfl Ba)))) (Ag rfl) fun w2 _ F s5 => ?_
   replace s5 : SL w [] w2 [Blk g0 79 [.int .i64 x0.At, .int .u8 (x0.Op.toNat : Int), .int .i64 x0.A, .int .i64 x0.B], Sl Ty.u8 v2 s1.1] := s5
   refine Ai <| Ac <| Ah <| Ak ?_
   obtain ⟨x1, h5, H⟩ := Ap H
   refine Aj F (Aa (Bj Fx.agg79 rfl (s5.blk_cells (.head _) (o := 0) (ds := [.int .i64 x0.At, .int .u8 (x0.Op.toNat : Int), .int .i64 x0.A, .int .i64 x0.B]) (fun j u hu => by rw [Nat.zero_add]; exact hu)) rfl) <| Ad) fun _ F => Bk (args := [.tmp 18]) F Fx.fn37 rfl (code_Encode_c (a0 := (⟨x0.At, x0.Op, x0.A, x0.B⟩ : S_api_Instr))    h5) rfl fun v3 w3 _ h6 F => ?_
   obtain ⟨v4, rfl, h7⟩ := h6
   have s6 := s5.add h7
   refine Aj F (Aa (Af rfl) <| Aa (Au (v := v4) rfl rfl) <| Aa (Au (v := .int .i64 x1.2) rfl rfl) <| Aa (Al rfl) <| Aa (Al rfl) <| Ad) fun _ F => Ai <| Ac <| Ah ?_
   obtain ⟨o2, H1, R1⟩ := Ap H
   clear H
   refine Bx (fun a w_ => Fr a 41 [(5, v2), (6, .int .i64 s1.2), (8, v4), (9, .int .i64 o2), (10, v0), (11, .int .i64 (a0.length : Int)), (12, .int .i64 s1.2)] ∧ SL w [] w_ [Sl Ty.u8 v4 x1.1, Sl Ty.u8 v2 s1.1]) ?_ ?_
   ·have H := H1
    refine Ah <| Ak <| Aj F (Aa (Af rfl) <| Aa (Bw rfl rfl) <| Aa (Af rfl) <| Ad) fun _ F => Bl (x1.2 == 0) (fun h8 => ?_) (fun h8 => ?_)
    ·replace H := Bb h8 H
     refine Aq F rfl rfl (Am rfl h8) (Af rfl) rfl rfl fun _ F => Aq F rfl rfl (Am rfl h8) (Cc rfl Tryz.underlying38 (Bu (s6.own_rd (.tail _ <| .tail _ <| .head _)))) rfl rfl fun _ F => Aq F rfl rfl (Am rfl h8) (Af rfl) rfl rfl fun _ F => Aq F rfl rfl (Am rfl h8) (Cc rfl Tryz.underlying38 (Bu (s6.own_rd (.head _)))) rfl rfl fun _ F => Aq F rfl rfl (Am rfl h8) (Bq rfl rfl) rfl rfl fun _ F => Aq F rfl rfl (Am rfl h8) (ex_gt rfl rfl) rfl rfl fun _ F => Aj F (Aa (Bf (By rfl h8) rfl) <| Ad) fun _ F => Ai <| Ac <| Bm F rfl (fun h9 => ?_) (fun h9 => ?_)
     ·replace H := Bb h9 H
      refine Ak <| Aj F (Aa (Al rfl) <| Ad) fun _ F => Ai ?_
      obtain rfl := An H
      refine Ac ?_
      exact ⟨F.sub ⟨rfl, rfl, rfl, rfl, rfl, rfl, rfl, trivial⟩, s6.f1.drop⟩
     replace H := Bc h9 H
     refine Aw ?_
     obtain rfl := An H
     refine Ac ?_
     exact ⟨F.sub ⟨rfl, rfl, rfl, rfl, rfl, rfl, rfl, trivial⟩, s6.f1.drop⟩
    replace H := Bc h8 H
    refine Ao F rfl rfl (Am rfl h8) Ab rfl rfl fun _ F => Ao F rfl rfl (Am rfl h8) Ab rfl rfl fun _ F => Ao F rfl rfl (Am rfl h8) Ab rfl rfl fun _ F => Ao F rfl rfl (Am rfl h8) Ab rfl rfl fun _ F => Ao F rfl rfl (Am rfl h8) Ab rfl rfl fun _ F => Ao F rfl rfl (Am rfl h8) Ab rfl rfl fun _ F => Aj F (Aa (Bi (By rfl h8) rfl) <| Ad) fun _ F => Ai <| Ac <| Cm F rfl <| Aw ?_
    obtain rfl := An H
    refine Ac ?_
    exact ⟨F.sub ⟨rfl, rfl, rfl, rfl, rfl, rfl, rfl, trivial⟩, s6.f1.drop⟩
   intro _ w4 hJ
   obtain ⟨F, s7⟩ := hJ
   have H := R1
   clear R1 H1
   refine Ac <| Ah <| Ah <| Ak <| Aj F (Aa (Af rfl) <| Aa (De rfl rfl) <| Ad) fun _ F => Ai <| Ac <| Bm F rfl (fun ha => ?_) (fun ha => ?_)
   ·replace H := Bb ha H
    refine Ah <| Ak <| Aj F (Aa (Af rfl) <| Aa (Af rfl) <| Aa (Al rfl) <| Aa (Al rfl) <| Aa (Al rfl) <| Ad) fun _ F => Ai <| Ac ?_
    obtain rfl := An H
    obtain rfl := hr _ rfl
    replace H := R0
    try dsimp only at H
    obtain rfl := An H
    refine Bd <| Bg <| blk_r <| Bg <| Bg <| blk_r <| Bg <| Bg ?_
    refine Av (rs := [.tmp 2, .tmp 3, .tmp 4]) (vs := [.slice none 0 0, .int .i64 s1.2, .int .i64 o2]) F (by rfl) ⟨_, _, rfl, Ay rfl, _, _, rfl, Ay rfl, _, _, rfl, Ay rfl, rfl⟩ ⟨_, rfl, ⟨(.slice none 0 0), rfl, (SL.nilSl (T := Ty.u8) s7).f1.drop.f1.drop⟩⟩
   replace H := Bc ha H
   refine Aw <| Ac <| Ak ?_
   obtain ⟨x2, hb, H⟩ := Ap H
   refine Aj F (Aa (Af rfl) <| Aa (Af rfl) <| Ad) fun _ F => ?_
   have s8 := s7.f1
   obtain ⟨_, hr_⟩ := (s8.own_rd (.tail _ <| .head _))
   refine Ci Flat.u8 F s8 Fx.sl38 rfl rfl rfl rfl hr_ rfl rfl hb rfl fun v5 w5 _ F s9 => Aj F (Aa (Al rfl) <| Ad) fun _ F => Ai <| Bz <| Ac <| Ak <| Aj F (Aa (Bq rfl rfl) <| Aa (Af rfl) <| Ad) fun _ F => Ai ?_
   obtain rfl := An H
   refine Ac ?_
   exact ⟨_, rfl, v5, F.sub ⟨rfl, rfl, rfl, rfl, trivial⟩, s9.f1.drop⟩
  replace H := Bc h1 H
  refine Ca <| Bp <| Bp <| Cb ?_
  obtain rfl := An H
  obtain rfl := hr _ rfl
  refine Ac ?_
  exact ⟨_, rfl, v2, F.sub ⟨rfl, trivial⟩, s2⟩
 intro _ w6 hJ
 obtain ⟨p0, rfl, v1, F, sa⟩ := hJ
 have H := R0
 clear R0 H0
 try dsimp only at H
 refine Ac <| Ah <| Ak <| Aj F (Aa (Af rfl) <| Aa (Al rfl) <| Aa (Al rfl) <| Aa (Al rfl) <| Ad) fun _ F => Ai <| Ac ?_
 obtain rfl := An H
 refine Bd ?_
 refine Av (rs := [.tmp 2, .tmp 3, .tmp 4]) (vs := [v1, .int .i64 0, .int .i64 0]) F (by rfl) ⟨_, _, rfl, Ay rfl, _, _, rfl, Ay rfl, _, _, rfl, Ay rfl, rfl⟩ ⟨_, rfl, ⟨v1, rfl, sa⟩⟩
-- proviso/opt.laid
theorem opt_laid_c {w : World} {v0 : Value} {a0 : List S_opt_item} {r : (List S_api_Instr)} (hr0 : Rd T_opt_item w [] v0 a0) (H : opt_laid a0 = some r) :
    Calls Tryz.prog 23 #[v0] w (Ret fun u_ w_ => ∃ u0 : Value, u_ = u0 ∧ SL w [] w_ [Sl T_api_Instr u0 r]) := by
 have s0 : SL w [] w [] := SL.init0 w
 refine Bn Tryz.func23 rfl Tryz.ntmps23 (Ag rfl) (args := [v0]) fun q0 F0 => ?_
 unfold opt_laid at H
 refine Ah <| Ak <| Aj F0 (Aa (Al rfl) <| Ad) fun q3 F4 => Ai <| Ac <| Ah <| Ak <| Aj F4 (Aa (Al rfl) <| Ad) fun q7 F8 => Ai <| Ac <| Ah <| Ak <| Aj F8 (Aa (Al rfl) <| Ad) fun _ F => Ai <| Ac <| Ah <| Ah <| Ak <| Aj F (Aa (Af rfl) <| Aa (Cc rfl Tryz.underlying58 (Bu (Cv hr0 s0))) <| Aa (Af rfl) <| Ad) fun _ F => Ai <| Ac ?_
 obtain ⟨o0, H0, R0⟩ := Ap H
 clear H
 refine Bx (fun a w_ => ∃ v1 : Value, Fr a 53 [(0, v0), (3, v1)] ∧ SL w [] w_ [Sl T_api_Instr v1 o0]) ?_ ?_
 ·have H := H0
  refine Bh <| Cu (opt_laid_b0 a0) (fun s1 a w_ => ∃ v2 : Value, Fr a 53 [(0, v0), (3, v2), (4, .int .i64 s1.2.1), (9, v0), (10, .int .i64 (a0.length : Int)), (11, .int .i64 s1.2.2)] ∧ SL w [] w_ [Sl T_api_Instr v2 s1.1]) H ?_ ?_
  ·exact ⟨(.slice none 0 0), F.sub ⟨rfl, rfl, rfl, rfl, rfl, rfl, trivial⟩, (SL.nilSl (T := T_api_Instr) s0)⟩
  intro s1 _ w0 h0 o1 H hr
  obtain ⟨v2, F, s2⟩ := h0
  replace H : opt_laid_b0 a0 s1 = some o1 := H
  unfold opt_laid_b0 at H
  refine Ah <| Ak <| Aj F (Aa (Cr rfl rfl) <| Ad) fun _ F => Ai <| Ac <| Ah <| Bm F rfl (fun h1 => ?_) (fun h1 => ?_)
  ·replace H := Bb h1 H
   refine Aw <| Ac <| Ah <| Bh <| Ah <| Ak ?_
   obtain ⟨x0, h2, H⟩ := Ap H
   obtain ⟨a1, h3, h4⟩ := Dg F_opt_item (Cv hr0 s2) Fx.sl58 rfl h2
   refine Aj F (Aa (h3 _ _ _ _ _ _ _ _ _ _ rfl rfl) <| Aa (Bj Fx.agg83 rfl h4 rfl) <| Ad) fun _ F => Bo F s2 Fx.zero83 rfl rfl fun g0 w1 _ F s3 => ?_
   have s4 := s3
   refine As F s4 rfl rfl Fx.sz83 (Ae rfl (Ae rfl (Ae rfl (Ae rfl (Ae rfl (Ae rfl Ba)))))) (Ag rfl) fun w2 _ F s5 => ?_
   replace s5 : SL w [] w2 [Blk g0 83 [.int .i64 x0.in_.At, .int .u8 (x0.in_.Op.toNat : Int), .int .i64 x0.in_.A, .int .i64 x0.in_.B, .int .i64 x0.to, .bool x0.gone], Sl T_api_Instr v2 s1.1] := s5
   refine Ai <| Ac <| Ah <| Ak <| Aj F (Aa (Af rfl) <| Aa (Ax Fx.fa83_0 rfl rfl) <| Aa (Ax Fx.fa79_0 rfl rfl) <| Ad) fun _ F => ?_
   have s6 := s5
   refine Cq F s6 rfl rfl Fx.sz3 rfl rfl rfl fun w3 _ F s7 => ?_
   replace s7 : SL w [] w3 [Blk g0 83 [.int .i64 s1.2.1, .int .u8 (x0.in_.Op.toNat : Int), .int .i64 x0.in_.A, .int .i64 x0.in_.B, .int .i64 x0.to, .bool x0.gone], Sl T_api_Instr v2 s1.1] := s7
   refine Ai <| Ac <| Ah <| Ak <| Aj F (Aa (Af rfl) <| Aa (Ax Fx.fa83_0 rfl rfl) <| Aa (Bj Fx.agg79 rfl (s7.blk_cells (.head _) (o := 0) (ds := [.int .i64 s1.2.1, .int .u8 (x0.in_.Op.toNat : Int), .int .i64 x0.in_.A, .int .i64 x0.in_.B]) (subcells _ rfl)) rfl) <| Ad) fun _ F => ?_
   refine Cs (parts := [(0, .tmp 20)]) F_api_Instr ([(⟨s1.2.1, x0.in_.Op, x0.in_.A, x0.in_.B⟩ : S_api_Instr)] : List S_api_Instr) F s7 Fx.sl67 rfl (by decide) rfl rfl rfl (by simp [Value.cells]) rfl rfl rfl fun v3 w4 _ F s8 => ?_
   obtain ⟨x1, h5, H⟩ := Ap H
   have s9 := s8.f2
   obtain ⟨_, hr_⟩ := (s9.own_rd (.tail _ <| .head _))
   refine Ci F_api_Instr F s9 Fx.sl67 rfl rfl rfl rfl hr_ rfl rfl h5 rfl fun v4 w5 _ F sa => ?_
   have s5086' := sa.f1.drop
   refine Aj F (Aa (Al rfl) <| Ad) fun _ F => Ai <| Ac <| Ak ?_
   obtain ⟨x2, h6, H⟩ := Ap H
   refine Aj F (Aa (Af rfl) <| Aa (Ax Fx.fa83_0 rfl rfl) <| Aa (Ax Fx.fa79_1 rfl rfl) <| Aa (Az Fx.nag5 rfl (s5086'.blk_cell (.tail _ <| .head _) rfl)) <| Ad) fun _ F => Bk (args := [.tmp 26]) F Fx.fn38 rfl (code_Size_c (a0 := x0.in_.Op)    h6) rfl fun v5 w6 _ h7 F => ?_
   obtain ⟨rfl, h8⟩ := h7
   have sb := s5086'.add h8
   refine Aj F (Aa (Bq rfl rfl) <| Aa (Al rfl) <| Ad) fun _ F => Ai <| Bz <| Ac <| Ak <| Aj F (Aa (Bq rfl rfl) <| Aa (Af rfl) <| Ad) fun _ F => Ai ?_
   obtain rfl := An H
   refine Ac ?_
   exact ⟨_, rfl, v4, F.sub ⟨rfl, rfl, rfl, rfl, rfl, rfl, trivial⟩, sb.f1.drop⟩
  replace H := Bc h1 H
  refine Ca <| Bp <| Bp <| Cb ?_
  obtain rfl := An H
  obtain rfl := hr _ rfl
  refine Ac ?_
  exact ⟨v2, F.sub ⟨rfl, rfl, trivial⟩, s2⟩
 intro _ w7 hJ
 obtain ⟨v1, F, sc⟩ := hJ
 have H := R0
 clear R0 H0
 refine Ac <| Ah <| Ah <| Ak <| Aj F (Aa (Af rfl) <| Aa (Cc rfl Tryz.underlying58 (Bu (Cv hr0 sc))) <| Aa (Af rfl) <| Ad) fun _ F => Ai <| Ac ?_
 obtain ⟨o2, H1, R1⟩ := Ap H
 clear H
 refine Bx (fun a w_ => ∃ v6 : Value, Fr a 53 [(3, v6)] ∧ SL w [] w_ [Sl T_api_Instr v6 o2]) ?_ ?_
 ·have H := H1
  refine Bh <| Cu (opt_laid_b1 a0) (fun sd a w_ => ∃ v7 : Value, Fr a 53 [(3, v7), (30, v0), (31, .int .i64 (a0.length : Int)), (32, .int .i64 sd.2)] ∧ SL w [] w_ [Sl T_api_Instr v7 sd.1]) H ?_ ?_
  ·exact ⟨v1, F.sub ⟨rfl, rfl, rfl, rfl, trivial⟩, sc⟩
  intro sd _ w8 h9 o3 H hr
  obtain ⟨v7, F, se⟩ := h9
  replace H : opt_laid_b1 a0 sd = some o3 := H
  unfold opt_laid_b1 at H
  refine Ah <| Ak <| Aj F (Aa (Cr rfl rfl) <| Ad) fun _ F => Ai <| Ac <| Ah <| Bm F rfl (fun ha => ?_) (fun ha => ?_)
  ·replace H := Bb ha H
   refine Aw <| Ac <| Ah <| Bh <| Ah <| Ak ?_
   obtain ⟨x3, hb, H⟩ := Ap H
   obtain ⟨a2, hc, hd⟩ := Dg F_opt_item (Cv hr0 se) Fx.sl58 rfl hb
   refine Aj F (Aa (Af rfl) <| Aa (hc _ _ _ _ _ _ _ _ _ _ rfl rfl) <| Aa (Bj Fx.agg83 rfl hd rfl) <| Ad) fun _ F => Bo F se Fx.zero83 rfl rfl fun g1 w9 _ F sf => Aj F (Aa (Al rfl) <| Ad) fun _ F => ?_
   have sg := sf
   refine As F sg rfl rfl Fx.sz83 (Ae rfl (Ae rfl (Ae rfl (Ae rfl (Ae rfl (Ae rfl Ba)))))) (Ag rfl) fun wa _ F sh => ?_
   replace sh : SL w [] wa [Blk g1 83 [.int .i64 x3.in_.At, .int .u8 (x3.in_.Op.toNat : Int), .int .i64 x3.in_.A, .int .i64 x3.in_.B, .int .i64 x3.to, .bool x3.gone], Sl T_api_Instr v7 sd.1] := sh
   refine Ai <| Ac <| Ah <| Ak ?_
   obtain ⟨x4, he, H⟩ := Ap H
   refine Aj F (Aa (Ax Fx.fa83_0 rfl rfl) <| Aa (Ax Fx.fa79_1 rfl rfl) <| Aa (Az Fx.nag5 rfl (sh.blk_cell (.head _) rfl)) <| Ad) fun _ F => Bk (args := [.tmp 39]) F Fx.fn30 rfl (code_Jumps_c (a0 := x3.in_.Op)    he) rfl fun v8 wb _ hf F => ?_
   obtain ⟨rfl, hg⟩ := hf
   have si := sh.add hg
   refine Ai <| Ac <| Bm F rfl (fun hh => ?_) (fun hh => ?_)
   ·replace H := Bb hh H
    refine Ak ?_
    obtain ⟨x5, hi, H⟩ := Ap H
    obtain ⟨a3, hj, hk⟩ := Ch F_api_Instr si (.tail _ <| .head _) Fx.sl67 rfl hi
    obtain ⟨x6, hl, H⟩ := Ap H
    obtain ⟨a4, hm, hn⟩ := Ch F_api_Instr si (.tail _ <| .head _) Fx.sl67 rfl hl
    refine Aj F (Aa (Af rfl) <| Aa (Af rfl) <| Aa (Af rfl) <| Aa (Ax Fx.fa83_1 rfl rfl) <| Aa (Az Fx.nag3 rfl (si.blk_cell (.head _) rfl)) <| Aa (hj _ _ _ _ _ _ _ _ _ _ rfl rfl) <| Aa (Cw Fx.fa79_0 rfl) <| Aa (Az Fx.nag3 rfl (Cells.at_ (SL.elcells F_api_Instr si (.tail _ <| .head _) hk hi) (o := 0) rfl)) <| Aa (hm _ _ _ _ _ _ _ _ _ _ rfl rfl) <| Aa (Cw Fx.fa79_2 rfl) <| Ad) fun _ F => ?_
    refine Di (y' := (⟨x6.At, x6.Op, x5.At, x6.B⟩ : S_api_Instr)) (o := 2) (ds := [.int .i64 x5.At]) F_api_Instr F si.f1 hn hl rfl rfl (by rfl) Fx.sz3 (by rfl) (Ae rfl Ba) (by rfl) fun wc _ F sj => ?_
    refine Ai <| Bz <| Ac <| Ak <| Aj F (Aa (Bq rfl rfl) <| Aa (Af rfl) <| Ad) fun _ F => Ai ?_
    obtain rfl := An H
    refine Ac ?_
    exact ⟨_, rfl, v7, F.sub ⟨rfl, rfl, rfl, rfl, trivial⟩, sj.f1.drop⟩
   replace H := Bc hh H
   refine Aw <| Bz <| Ac <| Ak <| Aj F (Aa (Bq rfl rfl) <| Aa (Af rfl) <| Ad) fun _ F => Ai ?_
   obtain rfl := An H
   refine Ac ?_
   exact ⟨_, rfl, v7, F.sub ⟨rfl, rfl, rfl, rfl, trivial⟩, si.drop⟩
  replace H := Bc ha H
  refine Ca <| Bp <| Bp <| Cb ?_
  obtain rfl := An H
  obtain rfl := hr _ rfl
  refine Ac ?_
  exact ⟨v7, F.sub ⟨rfl, trivial⟩, se⟩
 intro _ wd hJ
 obtain ⟨v6, F, sk⟩ := hJ
 have H := R1
 clear R1 H1
 refine Ac <| Ah <| Ak <| Aj F (Aa (Af rfl) <| Aa (Al rfl) <| Ad) fun _ F => Ai <| Ac ?_
 obtain rfl := An H
 refine Bd ?_
 refine Av (rs := [.tmp 2]) (vs := [v6]) F (by rfl) ⟨_, _, rfl, Ay rfl, rfl⟩ ⟨_, rfl, ⟨v6, rfl, sk⟩⟩
-- proviso/opt.end
theorem opt_end_c {w : World} {v0 : Value} {a0 : List S_opt_item} {a1 : Int} {r : Int} (hr0 : Rd T_opt_item w [] v0 a0) (H : opt_end a0 a1 = some r) :
    Calls Tryz.prog 50 #[v0, .int .i64 a1] w (Ret fun u_ w_ => u_ = .int .i64 r ∧ SL w [] w_ []) := by
 have s0 : SL w [] w [] := SL.init0 w
 refine Bn Tryz.func50 rfl Tryz.ntmps50 (Ag rfl) (args := [v0, .int .i64 a1]) fun q0 F0 => ?_
 unfold opt_end at H
 refine Ah <| Ak <| Aj F0 (Aa (Al rfl) <| Ad) fun q3 F4 => Ai <| Ac <| Ah <| Ak <| st_mkmap (Value.int .i64) (Value.int .i64) F4 s0 rfl fun g0 w0 _ F s1 => Aj F (Aa (Al rfl) <| Ad) fun _ F => Ai <| Ac <| Ah <| Ak ?_
 obtain ⟨x0, h0, H⟩ := Ap H
 obtain ⟨a2, h1, h2⟩ := Dg F_opt_item (Cv hr0 s1) Fx.sl58 rfl h0
 refine Aj F (Aa (Af rfl) <| Aa (Af rfl) <| Aa (h1 _ _ _ _ _ _ _ _ _ _ rfl rfl) <| Aa (Cw Fx.fa83_1 rfl) <| Aa (Az Fx.nag3 rfl (Cells.at_ h2 (o := 4) rfl)) <| Aa (Al rfl) <| Ad) fun _ F => Ai <| Ac <| Ah <| Ah <| Ak <| Aj F (Aa (Af rfl) <| Aa (Af rfl) <| Aa (Bw rfl rfl) <| Aa (Af rfl) <| Ad) fun _ F => Bl (x0.to == a1) (fun h3 => ?_) (fun h3 => ?_)
 ·replace H := Bb h3 H
  refine Ao F rfl rfl (Am rfl h3) Ab rfl rfl fun _ F => Ao F rfl rfl (Am rfl h3) Ab rfl rfl fun _ F => Ao F rfl rfl (Am rfl h3) Ab rfl rfl fun _ F => Ao F rfl rfl (Am rfl h3) Ab rfl rfl fun _ F => Ao F rfl rfl (Am rfl h3) Ab rfl rfl fun _ F => Ao F rfl rfl (Am rfl h3) Ab rfl rfl fun _ F => Ao F rfl rfl (Am rfl h3) Ab rfl rfl fun _ F => Aj F (Aa (Bf (By rfl h3) rfl) <| Ad) fun _ F => Ai <| Ac <| Cz F rfl <| Ah <| Ak <| Aj F (Aa (Af rfl) <| Aa (Al rfl) <| Ad) fun _ F => Ai <| Ac ?_
  obtain rfl := An H
  refine Bd <| Bg ?_
  refine Av (rs := [.tmp 4]) (vs := [.int .i64 x0.to]) F (by rfl) ⟨_, _, rfl, Ay rfl, rfl⟩ ⟨_, rfl, ⟨rfl, s1.drop⟩⟩
 replace H := Bc h3 H
 refine Aq F rfl rfl (Am rfl h3) (Af rfl) rfl rfl fun _ F => Aq F rfl rfl (Am rfl h3) (Af rfl) rfl rfl fun _ F => ?_
 obtain ⟨x1, h4, H⟩ := Ap H
 obtain ⟨a3, h5, h6⟩ := Dg F_opt_item (Cv hr0 s1) Fx.sl58 rfl h4
 refine Aq F rfl rfl (Am rfl h3) (h5 _ _ _ _ _ _ _ _ _ _ rfl rfl) rfl rfl fun _ F => Aq F rfl rfl (Am rfl h3) (Cw Fx.fa83_0 rfl) rfl rfl fun _ F => Aq F rfl rfl (Am rfl h3) (ex_fae Fx.fa79_1 rfl rfl) rfl rfl fun _ F => Aq F rfl rfl (Am rfl h3) (Az Fx.nag5 rfl (Cells.at_ h6 (o := 1) rfl)) rfl rfl fun _ F => Aq F rfl rfl (Am rfl h3) (De rfl rfl) rfl rfl fun _ F => Aj F (Aa (Bi (By rfl h3) rfl) <| Ad) fun _ F => Ai <| Ac <| Bm F rfl (fun h7 => ?_) (fun h7 => ?_)
 ·replace H := Bb h7 H
  refine Ah <| Ak <| Aj F (Aa (Af rfl) <| Aa (Al rfl) <| Ad) fun _ F => Ai <| Ac ?_
  obtain rfl := An H
  refine Bd <| Bg ?_
  refine Av (rs := [.tmp 4]) (vs := [.int .i64 x0.to]) F (by rfl) ⟨_, _, rfl, Ay rfl, rfl⟩ ⟨_, rfl, ⟨rfl, s1.drop⟩⟩
 replace H := Bc h7 H
 refine Aw <| Ac <| Ah ?_
 obtain ⟨o0, H0, R0⟩ := Ap H
 clear H
 refine Bx (fun a w_ => ∃ p0 : (List (Int × Int)) × Int, o0 = .inr (p0) ∧ Fr a 50 [(6, .int .i64 p0.2)] ∧ SL w [] w_ []) ?_ ?_
 ·have H := H0
  refine Bh <| Cu (opt_end_b0 a0 a1) (fun s2 a w_ => Fr a 50 [(0, v0), (1, .int .i64 a1), (5, .map (some g0)), (6, .int .i64 s2.2)] ∧ SL w [] w_ [Mp (Value.int .i64) (Value.int .i64) g0 s2.1]) H ?_ ?_
  ·exact ⟨F.sub ⟨rfl, rfl, rfl, rfl, trivial⟩, s1⟩
  intro s2 _ w1 h8 o1 H hr
  obtain ⟨F, s3⟩ := h8
  replace H : opt_end_b0 a0 a1 s2 = some o1 := H
  unfold opt_end_b0 at H
  refine Ah <| Ah <| Ak ?_
  obtain ⟨x2, h9, H⟩ := Ap H
  obtain ⟨a4, ha, hb⟩ := Dg F_opt_item (Cv hr0 s3) Fx.sl58 rfl h9
  refine Aj F (Aa (Af rfl) <| Aa (Af rfl) <| Aa (ha _ _ _ _ _ _ _ _ _ _ rfl rfl) <| Aa (Cw Fx.fa83_0 rfl) <| Aa (ex_fae Fx.fa79_1 rfl rfl) <| Aa (Az Fx.nag5 rfl (Cells.at_ hb (o := 1) rfl)) <| Aa (Bw rfl rfl) <| Ad) fun _ F => Ai <| Ac <| Bm F rfl (fun hc => ?_) (fun hc => ?_)
  ·replace H := Bb hc H
   refine Aw <| Ac <| Bh <| Ah <| Ah <| Ak <| Aj F (Aa (Af rfl) <| Aa (Af rfl) <| Aa (ex_lookup (k := s2.2) (z0 := (0 : Int)) s3 (.head _) Tryz.underlying76 Fx.key3 Fx.mz3 rfl rfl) <| Aa (ex_gt rfl rfl) <| Ad) fun _ F => Ai <| Ac <| Bm F rfl (fun hd => ?_) (fun hd => ?_)
   ·replace H := Bb hd H
    refine Ah <| Ak ?_
    obtain ⟨x3, he, H⟩ := Ap H
    obtain ⟨a5, hf, hg⟩ := Dg F_opt_item (Cv hr0 s3) Fx.sl58 rfl he
    refine Aj F (Aa (Af rfl) <| Aa (Af rfl) <| Aa (hf _ _ _ _ _ _ _ _ _ _ rfl rfl) <| Aa (Cw Fx.fa83_1 rfl) <| Aa (Az Fx.nag3 rfl (Cells.at_ hg (o := 4) rfl)) <| Aa (Al rfl) <| Ad) fun _ F => Ai <| Ac ?_
    obtain rfl := An H
    obtain rfl := hr _ rfl
    replace H := R0
    try dsimp only at H
    obtain rfl := An H
    refine Bd <| Bg <| blk_r <| Bg <| blk_r <| Bg <| Bg ?_
    refine Av (rs := [.tmp 4]) (vs := [.int .i64 x3.to]) F (by rfl) ⟨_, _, rfl, Ay rfl, rfl⟩ ⟨_, rfl, ⟨rfl, s3.drop⟩⟩
   replace H := Bc hd H
   refine Aw <| Ac <| Ah <| Ak <| Aj F (Aa (Af rfl) <| Aa (Af rfl) <| Ad) fun _ F => st_mapset (k := s2.2) (u := 1) F s3 Tryz.underlying76 Fx.key3 rfl rfl rfl fun w2 _ F s4 => Ai <| Ac <| Ak ?_
   obtain ⟨x4, hh, H⟩ := Ap H
   obtain ⟨a6, hi, hj⟩ := Dg F_opt_item (Cv hr0 s4) Fx.sl58 rfl hh
   refine Aj F (Aa (Af rfl) <| Aa (Af rfl) <| Aa (hi _ _ _ _ _ _ _ _ _ _ rfl rfl) <| Aa (Cw Fx.fa83_1 rfl) <| Aa (Az Fx.nag3 rfl (Cells.at_ hj (o := 4) rfl)) <| Aa (Al rfl) <| Ad) fun _ F => Ai <| Bz ?_
   obtain rfl := An H
   refine Ac ?_
   exact ⟨_, rfl, F.sub ⟨rfl, rfl, rfl, rfl, trivial⟩, s4⟩
  replace H := Bc hc H
  refine Ca <| Bp <| Bp <| Cb ?_
  obtain rfl := An H
  obtain rfl := hr _ rfl
  refine Ac ?_
  exact ⟨_, rfl, F.sub ⟨rfl, trivial⟩, s3.drop⟩
 intro _ w3 hJ
 obtain ⟨p0, rfl, F, s5⟩ := hJ
 have H := R0
 clear R0 H0
 try dsimp only at H
 refine Ac <| Ah <| Ak <| Aj F (Aa (Af rfl) <| Aa (Al rfl) <| Ad) fun _ F => Ai <| Ac ?_
 obtain rfl := An H
 refine Bd ?_
 refine Av (rs := [.tmp 4]) (vs := [.int .i64 p0.2]) F (by rfl) ⟨_, _, rfl, Ay rfl, rfl⟩ ⟨_, rfl, ⟨rfl, s5⟩⟩
-- proviso/opt.threads
theorem opt_threads_c {w : World} {v0 : Value} {a0 : List S_opt_item} {r : (List S_opt_item) × Bool} (hr0 : Rd T_opt_item w [] v0 a0) (H : opt_threads a0 = some r) :
    Calls Tryz.prog 32 #[v0] w (Ret fun u_ w_ => ∃ u0 : Value, u_ = .tuple ⟨[u0, .bool r.2]⟩ ∧ SL w [] w_ [Sl T_opt_item u0 r.1]) := by
 have s0 : SL w [] w [] := SL.init0 w
 refine Bn Tryz.func32 rfl Tryz.ntmps32 (Ag rfl) (args := [v0]) fun q0 F0 => ?_
 unfold opt_threads at H
 refine Ah <| Ak <| Aj F0 (Aa (Al rfl) <| Aa (Al rfl) <| Ad) fun q3 F4 => Ai <| Ac <| Ah <| Ak <| Aj F4 (Aa (Al rfl) <| Ad) fun q7 F8 => Ai <| Ac <| Ah <| Ak ?_
 obtain ⟨x0, h0, H⟩ := Ap H
 refine Aj F8 (Aa (Af rfl) <| Ad) fun _ F => ?_
 have s1 := (SL.nilSl (T := T_opt_item) s0)
 obtain ⟨_, hr_⟩ := (Cv hr0 s1)
 refine Ci F_opt_item F s1 Fx.sl58 rfl rfl rfl rfl hr_ rfl rfl h0 rfl fun v1 w0 _ F s2 => Aj F (Aa (Al rfl) <| Ad) fun _ F => Ai <| Ac <| Ah <| Ah <| Ak <| Aj F (Aa (Af rfl) <| Aa (Cc rfl Tryz.underlying58 (Bu (Cv hr0 s2))) <| Aa (Af rfl) <| Ad) fun _ F => Ai <| Ac ?_
 obtain ⟨o0, H0, R0⟩ := Ap H
 clear H
 refine Bx (fun a w_ => ∃ v2 : Value, Fr a 41 [(4, .bool o0.1), (5, v2)] ∧ SL w [] w_ [Sl T_opt_item v2 o0.2]) ?_ ?_
 ·have H := H0
  refine Bh <| Cu (opt_threads_b0 a0) (fun s3 a w_ => ∃ v3 : Value, Fr a 41 [(0, v0), (4, .bool s3.1), (5, v3), (11, v0), (12, .int .i64 (a0.length : Int)), (13, .int .i64 s3.2.2)] ∧ SL w [] w_ [Sl T_opt_item v3 s3.2.1]) H ?_ ?_
  ·exact ⟨v1, F.sub ⟨rfl, rfl, rfl, rfl, rfl, rfl, trivial⟩, s2⟩
  intro s3 _ w1 h1 o1 H hr
  obtain ⟨v3, F, s4⟩ := h1
  replace H : opt_threads_b0 a0 s3 = some o1 := H
  unfold opt_threads_b0 at H
  refine Ah <| Ak <| Aj F (Aa (Cr rfl rfl) <| Ad) fun _ F => Ai <| Ac <| Ah <| Bm F rfl (fun h2 => ?_) (fun h2 => ?_)
  ·replace H := Bb h2 H
   refine Aw <| Ac <| Ah <| Bh <| Ah <| Ak ?_
   obtain ⟨x1, h3, H⟩ := Ap H
   obtain ⟨a2, h4, h5⟩ := Dg F_opt_item (Cv hr0 s4) Fx.sl58 rfl h3
   refine Aj F (Aa (Af rfl) <| Aa (h4 _ _ _ _ _ _ _ _ _ _ rfl rfl) <| Aa (Bj Fx.agg83 rfl h5 rfl) <| Ad) fun _ F => Bo F s4 Fx.zero83 rfl rfl fun g0 w2 _ F s5 => Aj F (Aa (Al rfl) <| Ad) fun _ F => ?_
   have s6 := s5
   refine As F s6 rfl rfl Fx.sz83 (Ae rfl (Ae rfl (Ae rfl (Ae rfl (Ae rfl (Ae rfl Ba)))))) (Ag rfl) fun w3 _ F s7 => ?_
   replace s7 : SL w [] w3 [Blk g0 83 [.int .i64 x1.in_.At, .int .u8 (x1.in_.Op.toNat : Int), .int .i64 x1.in_.A, .int .i64 x1.in_.B, .int .i64 x1.to, .bool x1.gone], Sl T_opt_item v3 s3.2.1] := s7
   refine Ai <| Ac <| Ah <| Ah <| Ak ?_
   obtain ⟨x2, h6, H⟩ := Ap H
   refine Aj F (Aa (Ax Fx.fa83_0 rfl rfl) <| Aa (Ax Fx.fa79_1 rfl rfl) <| Aa (Az Fx.nag5 rfl (s7.blk_cell (.head _) rfl)) <| Ad) fun _ F => Bk (args := [.tmp 20]) F Fx.fn30 rfl (code_Jumps_c (a0 := x1.in_.Op)    h6) rfl fun v4 w4 _ h7 F => ?_
   obtain ⟨rfl, h8⟩ := h7
   have s8 := s7.add h8
   refine Aj F (Aa (Da rfl) <| Ad) fun _ F => Ai <| Ac <| Bm F rfl (fun h9 => ?_) (fun h9 => ?_)
   ·replace H := Bb h9 H
    refine Ca <| Bp <| Cb <| Ac <| Ak <| Aj F (Aa (Bq rfl rfl) <| Aa (Af rfl) <| Ad) fun _ F => Ai ?_
    obtain rfl := An H
    refine Ac ?_
    exact ⟨_, rfl, v3, F.sub ⟨rfl, rfl, rfl, rfl, rfl, rfl, trivial⟩, s8.drop⟩
   replace H := Bc h9 H
   refine Aw <| Ac <| Ah <| Ak ?_
   obtain ⟨x3, ha, H⟩ := Ap H
   refine Aj F (Aa (Af rfl) <| Aa (Af rfl) <| Ad) fun _ F => Bk (args := [.tmp 23, .tmp 24]) F Fx.fn50 rfl (opt_end_c (a0 := a0) (a1 := s3.2.2)   (hr0.pass0 s8) ha) rfl fun v5 w5 _ hb F => ?_
   obtain ⟨rfl, hc⟩ := hb
   have s9 := s8.add hc
   refine Aj F (Aa (Al rfl) <| Ad) fun _ F => Ai <| Ac <| Ah <| Ak <| Aj F (Aa (Af rfl) <| Aa (Af rfl) <| Ad) fun _ F => Bl s3.1 (fun hd => ?_) (fun hd => ?_)
   ·replace H := Bb hd H
    refine Ao F rfl rfl (Am rfl hd) Ab rfl rfl fun _ F => Ao F rfl rfl (Am rfl hd) Ab rfl rfl fun _ F => Ao F rfl rfl (Am rfl hd) Ab rfl rfl fun _ F => Ao F rfl rfl (Am rfl hd) Ab rfl rfl fun _ F => Aj F (Aa (Bf (By rfl hd) rfl) <| Aa (Al rfl) <| Ad) fun _ F => Ai <| Ac <| Ak ?_
    obtain ⟨x4, he, H⟩ := Ap H
    obtain ⟨a3, hf, hg⟩ := Ch F_opt_item s9 (.tail _ <| .head _) Fx.sl58 rfl he
    refine Aj F (Aa (Af rfl) <| Aa (Af rfl) <| Aa (Af rfl) <| Aa (hf _ _ _ _ _ _ _ _ _ _ rfl rfl) <| Aa (Cw Fx.fa83_1 rfl) <| Ad) fun _ F => ?_
    refine Di (y' := (⟨(⟨x4.in_.At, x4.in_.Op, x4.in_.A, x4.in_.B⟩ : S_api_Instr), x3, x4.gone⟩ : S_opt_item)) (o := 4) (ds := [.int .i64 x3]) F_opt_item F s9.f1 hg he rfl rfl (by rfl) Fx.sz3 (by rfl) (Ae rfl Ba) (by rfl) fun w6 _ F sa => ?_
    refine Ai <| Bz <| Ac <| Ak <| Aj F (Aa (Bq rfl rfl) <| Aa (Af rfl) <| Ad) fun _ F => Ai ?_
    obtain rfl := An H
    refine Ac ?_
    exact ⟨_, rfl, v3, F.sub ⟨rfl, rfl, rfl, rfl, rfl, rfl, trivial⟩, sa.f1.drop⟩
   replace H := Bc hd H
   refine Aq F rfl rfl (Am rfl hd) (Af rfl) rfl rfl fun _ F => Aq F rfl rfl (Am rfl hd) (Ax Fx.fa83_1 rfl rfl) rfl rfl fun _ F => Aq F rfl rfl (Am rfl hd) (Az Fx.nag3 rfl (s9.blk_cell (.head _) rfl)) rfl rfl fun _ F => Aq F rfl rfl (Am rfl hd) (De rfl rfl) rfl rfl fun _ F => Aj F (Aa (Bi (By rfl hd) rfl) <| Aa (Al rfl) <| Ad) fun _ F => Ai <| Ac <| Ak ?_
   obtain ⟨x5, hh, H⟩ := Ap H
   obtain ⟨a4, hi, hj⟩ := Ch F_opt_item s9 (.tail _ <| .head _) Fx.sl58 rfl hh
   refine Aj F (Aa (Af rfl) <| Aa (Af rfl) <| Aa (Af rfl) <| Aa (hi _ _ _ _ _ _ _ _ _ _ rfl rfl) <| Aa (Cw Fx.fa83_1 rfl) <| Ad) fun _ F => ?_
   refine Di (y' := (⟨(⟨x5.in_.At, x5.in_.Op, x5.in_.A, x5.in_.B⟩ : S_api_Instr), x3, x5.gone⟩ : S_opt_item)) (o := 4) (ds := [.int .i64 x3]) F_opt_item F s9.f1 hj hh rfl rfl (by rfl) Fx.sz3 (by rfl) (Ae rfl Ba) (by rfl) fun w7 _ F sb => ?_
   refine Ai <| Bz <| Ac <| Ak <| Aj F (Aa (Bq rfl rfl) <| Aa (Af rfl) <| Ad) fun _ F => Ai ?_
   obtain rfl := An H
   refine Ac ?_
   exact ⟨_, rfl, v3, F.sub ⟨rfl, rfl, rfl, rfl, rfl, rfl, trivial⟩, sb.f1.drop⟩
  replace H := Bc h2 H
  refine Ca <| Bp <| Bp <| Cb ?_
  obtain rfl := An H
  obtain rfl := hr _ rfl
  refine Ac ?_
  exact ⟨v3, F.sub ⟨rfl, rfl, trivial⟩, s4⟩
 intro _ w8 hJ
 obtain ⟨v2, F, sc⟩ := hJ
 have H := R0
 clear R0 H0
 refine Ac <| Ah <| Ak <| Aj F (Aa (Af rfl) <| Aa (Af rfl) <| Aa (Al rfl) <| Aa (Al rfl) <| Ad) fun _ F => Ai <| Ac ?_
 obtain rfl := An H
 refine Bd ?_
 refine Av (rs := [.tmp 2, .tmp 3]) (vs := [v2, .bool o0.1]) F (by rfl) ⟨_, _, rfl, Ay rfl, _, _, rfl, Ay rfl, rfl⟩ ⟨_, rfl, ⟨v2, rfl, sc⟩⟩
-- C72
theorem perm_sortI {l l' : List Int} (h : l.Perm l') : sortI l = sortI l' := by
  unfold sortI
  exact List.Perm.eq_of_pairwise (le := fun a b => decide (a ≤ b) = true) (fun a b _ _ h1 h2 => by simp at h1 h2; omega) (List.pairwise_mergeSort (fun a b c h1 h2 => by simp at h1 h2 ⊢; omega) (fun a b => by simp; omega) _) (List.pairwise_mergeSort (fun a b c h1 h2 => by simp at h1 h2 ⊢; omega) (fun a b => by simp; omega) _) ((List.mergeSort_perm _ _).trans (h.trans (List.mergeSort_perm _ _).symm))
theorem flow_rising_int_c {w : World} {FF : List Nat} {g0 : Nat} {a0 : List (Int × Int)} {r : List Int} (hst : Star [Mp (Value.int .i64) (Value.int .i64) g0 a0] w FF) (H : flow_rising_int a0 = some r) :
    Calls Tryz.prog 72 #[.map (some g0)] w (Ret fun u_ w_ => ∃ u0 : Value, u_ = u0 ∧ SL w FF w_ [Mp (Value.int .i64) (Value.int .i64) g0 a0, Sl (Ty.int .i64) u0 r]) := by
  have s0 : SL w FF w [Mp (Value.int .i64) (Value.int .i64) g0 a0] := SL.init w FF hst
  unfold flow_rising_int at H
  split at H
  · rename_i hlen
    obtain rfl := some_ok H
    refine call_enter Tryz.func72 rfl Tryz.ntmps72 (Nat.le_of_ble_eq_true rfl) (args := [.map (some g0)]) fun q0 F0 => ?_
    refine wp_seq ?_
    refine wp_reg ?_
    refine st_pr F0 (PR.op (ex_asg rfl) <| PR.nil) fun q1 F1 => ?_
    refine st_end ?_
    refine then_n ?_
    refine wp_seq ?_
    refine wp_reg ?_
    refine st_pr F1 (PR.op (ex_asg rfl) <| PR.nil) fun q2 F2 => ?_
    refine st_end ?_
    refine then_n ?_
    refine wp_seq ?_
    refine wp_cutn (fun a w_ => ∃ (v : Value) (js : List Nat), js.Perm (List.range a0.length) ∧ Fr a 18 [(3, v)] ∧ SL w FF w_ [Sl (Ty.int .i64) v ((pick a0 js).map Prod.fst), Mp (Value.int .i64) (Value.int .i64) g0 a0]) ?_ ?_
    · refine wp_seq ?_
      refine wp_reg ?_
      refine st_pr F2 (PR.op (ex_move rfl) <| PR.nil) fun q3 F3 => ?_
      refine st_range F3 s0 Tryz.underlying76 rfl rfl fun it w4 q4 F4 s4 => ?_
      refine st_end ?_
      refine then_n ?_
      refine wp_block ?_
      refine wp_lp (S := Nat) (R := Unit) (fun s => if s = 0 then some (.inr ()) else some (.inl (s - 1))) (fun s a w_ => ∃ (v : Value) (js : List Nat), js.Nodup ∧ (∀ j ∈ js, j < a0.length) ∧ js.length + s = a0.length ∧ Fr a 18 [(3, v), (6, .pointer (some ⟨it, 0, none⟩))] ∧ SL w FF w_ [Sl (Ty.int .i64) v ((pick a0 js).map Prod.fst), MpIt (Value.int .i64) (Value.int .i64) g0 it a0 js]) (s := a0.length) (r := ()) ?_ ?_ ?_
      · have : ∀ k, loopO (fun s : Nat => if s = 0 then some (.inr ()) else some (.inl (s - 1))) k = some () := by
          intro k
          induction k with
          | zero => rw [loopO_eq]; rfl
          | succ k ih => rw [loopO_eq, if_neg (by omega)]; exact ih
        exact this _
      · exact ⟨.slice none 0 0, [], by simp, by simp, by simp, F4.sub ⟨rfl, rfl, trivial⟩, SL.nilSl s4⟩
      · rintro s a w_ ⟨v, js, hn, hl, hls, F5, s5⟩ o ho hr
        refine wp_seq ?_
        refine wp_reg ?_
        refine st_next F5 s5.f1 rfl rfl (fun q6 hperm F6 => ?_) (fun j p w6 q6 hp hn' hl' F6 s6 => ?_)
        · have h0 : s = 0 := by
            have := hperm.length_eq
            rw [List.length_range] at this
            omega
          subst h0
          obtain rfl : .inr () = o := some_ok ho
          refine st_pr F6 (PR.op (ex_extract (v := .bool false) rfl rfl) <| PR.nil) fun q7 F7 => ?_
          refine st_end ?_
          refine then_n ?_
          refine wp_seq ?_
          refine wp_if_f F7 rfl ?_
          refine wp_exit ?_
          refine then_x <| then_x <| blk_hit ?_
          exact ⟨v, js, hperm, F7.sub ⟨rfl, trivial⟩, s5.f1.unit.f1⟩
        · have hs : s ≠ 0 := by
            intro h0
            have h7 := rest_perm hn' hl'
            have h8 := h7.length_eq
            rw [List.length_append, List.length_append, List.length_range] at h8
            simp only [List.length_cons, List.length_nil] at h8
            omega
          obtain ⟨s', rfl⟩ : ∃ s', s = s' + 1 := ⟨s - 1, by omega⟩
          rw [if_neg (by omega)] at ho
          obtain rfl : .inl (s' + 1 - 1) = o := some_ok ho
          refine st_pr F6 (PR.op (ex_extract (v := .bool true) rfl rfl) <| PR.nil) fun q7 F7 => ?_
          refine st_end ?_
          refine then_n ?_
          refine wp_seq ?_
          refine wp_if_t F7 rfl ?_
          refine wp_skip ?_
          refine then_n ?_
          refine wp_block ?_
          refine wp_seq ?_
          refine wp_reg ?_
          refine st_pr F7 (PR.op (ex_entry s6 (.head _) hp rfl) <| PR.op (ex_extract (v := .int .i64 p.1) rfl rfl) <| PR.op (ex_asg rfl) <| PR.nil) fun q8 F8 => ?_
          refine st_end ?_
          refine then_n ?_
          refine wp_reg ?_
          refine st_pr F8 (PR.op (ex_move rfl) <| PR.op (ex_move rfl) <| PR.nil) fun q9 F9 => ?_
          refine st_bslice (parts := [(0, .tmp 12)]) (Flat.int .i64) ([p.1] : List Int) F9 s6 Fx.sl95 rfl (by decide) rfl rfl rfl (by simp [Value.cells]) rfl rfl rfl fun v10 w10 q10 F10 s10 => ?_
          have s11 := s10.f2
          obtain ⟨_, hr_⟩ := (s11.own_rd (.tail _ <| .head _))
          have happ : app 17592186044416 ((pick a0 js).map Prod.fst) [p.1] = some ((pick a0 (js ++ [j])).map Prod.fst) := by
            have h7 : (pick a0 js).length ≤ js.length := List.length_filterMap_le _ _
            unfold app
            rw [if_pos (by simp; omega), pick_snoc hp, List.map_append]
            rfl
          refine st_append_rd (Flat.int .i64) F10 s11 Fx.sl95 rfl rfl rfl rfl hr_ rfl rfl happ rfl fun v12 w12 q12 F12 s12 => ?_
          refine st_pr F12 (PR.op (ex_asg rfl) <| PR.nil) fun q13 F13 => ?_
          refine st_end ?_
          refine blk_n <| then_n ?_
          refine ⟨s' + 1 - 1, rfl, v12, js ++ [j], hn', hl', by simp; omega, F13.sub ⟨rfl, rfl, trivial⟩, s12.f1.drop⟩
    · rintro a14 w14 ⟨v, js, hperm, F14, s14⟩
      have hk : ((pick a0 js).map Prod.fst).Perm (a0.map Prod.fst) := (pick_perm hperm).map _
      have hlen2 := hk.length_eq
      rw [List.length_map, List.length_map] at hlen2
      have hsort : sortO ((pick a0 js).map Prod.fst) = some (sortI (a0.map Prod.fst)) := by
        unfold sortO
        rw [if_pos (by rw [List.length_map]; omega), perm_sortI hk]
      refine wp_seq ?_
      refine wp_reg ?_
      refine st_pr F14 (PR.op (ex_move rfl) <| PR.nil) fun q15 F15 => ?_
      obtain ⟨G16, hst16, hF16, hG16, hcl16⟩ := SL.open_ (ps := [Sl (Ty.int .i64) v ((pick a0 js).map Prod.fst)]) (rest := [Mp (Value.int .i64) (Value.int .i64) g0 a0]) s14
      refine st_call (args := [.tmp 15]) F15 Fx.fn82 rfl (sort_own lays_sort hst16 hsort) rfl fun v17 w17 q17 hS17 F17 => ?_
      obtain ⟨rfl, hq17⟩ := hS17
      have s18 := hcl16 _ _ hq17
      refine st_end ?_
      refine then_n ?_
      refine wp_seq ?_
      refine wp_reg ?_
      refine st_pr F17 (PR.op (ex_move rfl) <| PR.op (ex_asg rfl) <| PR.nil) fun q19 F19 => ?_
      refine st_end ?_
      refine then_n ?_
      refine wp_ret ?_
      refine ret_gen (rs := [.tmp 2]) (vs := [v]) F19 (by rfl) ⟨_, _, rfl, RV.tmp rfl, rfl⟩ ⟨_, rfl, v, rfl, s18.f1⟩
  · cases H
-- proviso/flow.placed
theorem flow_placed_c {w : World} {a0 : S_api_Instr} {r : Bool}  (H : flow_placed a0 = some r) :
    Calls Tryz.prog 81 #[.agg ⟨[.int .i64 a0.At, .int .u8 (a0.Op.toNat : Int), .int .i64 a0.A, .int .i64 a0.B]⟩] w (Ret fun u_ w_ => u_ = .bool r ∧ SL w [] w_ []) := by
 have s0 : SL w [] w [] := SL.init0 w
 refine Bn Tryz.func81 rfl Tryz.ntmps81 (Ag rfl) (args := [.agg ⟨[.int .i64 a0.At, .int .u8 (a0.Op.toNat : Int), .int .i64 a0.A, .int .i64 a0.B]⟩]) fun q0 F0 => ?_
 unfold flow_placed at H
 refine Ah <| Ak <| Db F0 s0 rfl rfl rfl fun g9 w0 _ F s1 => Aj F (Aa (Al rfl) <| Ad) fun _ F => Ai <| Ac <| Ah <| Ak <| Aj F (Aa (Ax Fx.fa79_0 rfl rfl) <| Aa (Az Fx.nag3 rfl (s1.blk_cell (.head _) rfl)) <| Aa (ex_ge rfl rfl) <| Aa (Af rfl) <| Ad) fun _ F => Bl (decide (a0.At ≥ 0)) (fun h0 => ?_) (fun h0 => ?_)
 ·replace H := Bb h0 H
  refine Aq F rfl rfl (Am rfl h0) (Ax Fx.fa79_0 rfl rfl) rfl rfl fun _ F => Aq F rfl rfl (Am rfl h0) (Az Fx.nag3 rfl (s1.blk_cell (.head _) rfl)) rfl rfl fun _ F => Aq F rfl rfl (Am rfl h0) (Cr rfl rfl) rfl rfl fun _ F => Aj F (Aa (Bf (By rfl h0) rfl) <| Aa (Al rfl) <| Ad) fun _ F => Ai <| Ac ?_
  obtain rfl := An H
  refine Bd ?_
  refine Av (rs := [.tmp 2]) (vs := [.bool (decide (a0.At < 4096))]) F (by rfl) ⟨_, _, rfl, Ay rfl, rfl⟩ ⟨_, rfl, ⟨rfl, s1.drop⟩⟩
 replace H := Bc h0 H
 refine Ao F rfl rfl (Am rfl h0) Ab rfl rfl fun _ F => Ao F rfl rfl (Am rfl h0) Ab rfl rfl fun _ F => Ao F rfl rfl (Am rfl h0) Ab rfl rfl fun _ F => Aj F (Aa (Bi (By rfl h0) rfl) <| Aa (Al rfl) <| Ad) fun _ F => Ai <| Ac ?_
 obtain rfl := An H
 refine Bd ?_
 refine Av (rs := [.tmp 2]) (vs := [.bool false]) F (by rfl) ⟨_, _, rfl, Ay rfl, rfl⟩ ⟨_, rfl, ⟨rfl, s1.drop⟩⟩
-- proviso/flow.Next
theorem flow_Next_c {w : World} {a0 : S_api_Instr} {r : (List Int)}  (H : flow_Next a0 = some r) :
    Calls Tryz.prog 71 #[.agg ⟨[.int .i64 a0.At, .int .u8 (a0.Op.toNat : Int), .int .i64 a0.A, .int .i64 a0.B]⟩] w (Ret fun u_ w_ => ∃ u0 : Value, u_ = u0 ∧ SL w [] w_ [Sl (Ty.int .i64) u0 r]) := by
 have s0 : SL w [] w [] := SL.init0 w
 refine Bn Tryz.func71 rfl Tryz.ntmps71 (Ag rfl) (args := [.agg ⟨[.int .i64 a0.At, .int .u8 (a0.Op.toNat : Int), .int .i64 a0.A, .int .i64 a0.B]⟩]) fun q0 F0 => ?_
 unfold flow_Next at H
 refine Ah <| Ak <| Db F0 s0 rfl rfl rfl fun g9 w0 _ F s1 => Aj F (Aa (Al rfl) <| Ad) fun _ F => Ai <| Ac <| Ah <| Ah <| Ak ?_
 obtain ⟨x0, h0, H⟩ := Ap H
 refine Aj F (Aa (Ax Fx.fa79_1 rfl rfl) <| Aa (Az Fx.nag5 rfl (s1.blk_cell (.head _) rfl)) <| Ad) fun _ F => Bk (args := [.tmp 5]) F Fx.fn38 rfl (code_Size_c (a0 := a0.Op)    h0) rfl fun v0 w1 _ h1 F => ?_
 obtain ⟨rfl, h2⟩ := h1
 have s2 := s1.add h2
 refine Aj F (Aa (Bw rfl rfl) <| Aa (Af rfl) <| Ad) fun _ F => Bl (x0 == 0) (fun h3 => ?_) (fun h3 => ?_)
 ·replace H := Bb h3 H
  refine Ao F rfl rfl (Am rfl h3) Ab rfl rfl fun _ F => Ao F rfl rfl (Am rfl h3) Ab rfl rfl fun _ F => Ao F rfl rfl (Am rfl h3) Ab rfl rfl fun _ F => Aj F (Aa (Bf (By rfl h3) rfl) <| Ad) fun _ F => Ai <| Ac <| Cz F rfl <| Ah <| Ak <| Aj F (Aa (Al rfl) <| Ad) fun _ F => Ai <| Ac ?_
  obtain rfl := An H
  refine Bd <| Bg ?_
  refine Av (rs := [.tmp 2]) (vs := [.slice none 0 0]) F (by rfl) ⟨_, _, rfl, Ay rfl, rfl⟩ ⟨_, rfl, ⟨(.slice none 0 0), rfl, (SL.nilSl (T := (Ty.int .i64)) s2).f1.drop⟩⟩
 replace H := Bc h3 H
 refine Aq F rfl rfl (Am rfl h3) (Bj Fx.agg79 rfl (s2.blk_cells (.head _) (o := 0) (ds := [.int .i64 a0.At, .int .u8 (a0.Op.toNat : Int), .int .i64 a0.A, .int .i64 a0.B]) (fun j u hu => by rw [Nat.zero_add]; exact hu)) rfl) rfl rfl fun _ F => ?_
 obtain ⟨x1, h4, H⟩ := Ap H
 refine st_ungd F rfl (Am rfl h3) <| Bk (args := [.tmp 9]) F Fx.fn81 rfl (flow_placed_c (a0 := (⟨a0.At, a0.Op, a0.A, a0.B⟩ : S_api_Instr))    h4) rfl fun v1 w2 _ h5 F => ?_
 obtain ⟨rfl, h6⟩ := h5
 have s3 := s2.add h6
 refine Aq F rfl rfl (Am rfl h3) (Da rfl) rfl rfl fun _ F => Aj F (Aa (Bi (By rfl h3) rfl) <| Ad) fun _ F => Ai <| Ac <| Bm F rfl (fun h7 => ?_) (fun h7 => ?_)
 ·replace H := Bb h7 H
  refine Ah <| Ak <| Aj F (Aa (Al rfl) <| Ad) fun _ F => Ai <| Ac ?_
  obtain rfl := An H
  refine Bd <| Bg ?_
  refine Av (rs := [.tmp 2]) (vs := [.slice none 0 0]) F (by rfl) ⟨_, _, rfl, Ay rfl, rfl⟩ ⟨_, rfl, ⟨(.slice none 0 0), rfl, (SL.nilSl (T := (Ty.int .i64)) s3).f1.drop⟩⟩
 replace H := Bc h7 H
 refine Aw <| Ac <| Ah <| Ak <| st_mkmap (Value.int .i64) (Value.int .i64) F s3 rfl fun g0 w3 _ F s4 => Aj F (Aa (Al rfl) <| Ad) fun _ F => Ai <| Ac <| Ah <| Ah <| Ak ?_
 obtain ⟨x2, h8, H⟩ := Ap H
 refine Aj F (Aa (Ax Fx.fa79_1 rfl rfl) <| Aa (Az Fx.nag5 rfl (s4.blk_cell (.tail _ <| .head _) rfl)) <| Ad) fun _ F => Bk (args := [.tmp 15]) F Fx.fn31 rfl (code_Ends_c (a0 := a0.Op)    h8) rfl fun v2 w4 _ h9 F => ?_
 obtain ⟨rfl, ha⟩ := h9
 have s5 := s4.add ha
 refine Aj F (Aa (Da rfl) <| Ad) fun _ F => Ai <| Ac <| Bm F rfl (fun hb => ?_) (fun hb => ?_)
 ·replace H := Bb hb H
  obtain ⟨x3, hc, H⟩ := Ap H
  refine Dj Fx.mixed (fun w_ => SL w [] w_ [Blk g9 79 [.int .i64 a0.At, .int .u8 (a0.Op.toNat : Int), .int .i64 a0.A, .int .i64 a0.B]]) ?_
  have s6 := s5.drew
  have s7 : SL w [] _ [Blk g9 79 [.int .i64 a0.At, .int .u8 (a0.Op.toNat : Int), .int .i64 a0.A, .int .i64 a0.B]] := s6.drop
  refine Bv (i := 0) rfl (by kernel_rfl) (by kernel_rfl) (by kernel_rfl) (fun _ hC => Af rfl) rfl rfl rfl F s7 fun _ F => ?_
  refine Bv (i := 1) rfl (by kernel_rfl) (by kernel_rfl) (by kernel_rfl) (fun _ hC => Ax Fx.fa79_0 rfl rfl) rfl rfl rfl F s7 fun _ F => ?_
  refine Bv (i := 2) rfl (by kernel_rfl) (by kernel_rfl) (by kernel_rfl) (fun _ hC => Az Fx.nag3 rfl (hC.blk_cell (.head _) rfl)) rfl rfl rfl F s7 fun _ F => ?_
  refine Bv (i := 3) rfl (by kernel_rfl) (by kernel_rfl) (by kernel_rfl) (fun _ hC => Ax Fx.fa79_1 rfl rfl) rfl rfl rfl F s7 fun _ F => ?_
  refine Bv (i := 4) rfl (by kernel_rfl) (by kernel_rfl) (by kernel_rfl) (fun _ hC => Az Fx.nag5 rfl (hC.blk_cell (.head _) rfl)) rfl rfl rfl F s7 fun _ F => ?_
  refine Be (i := 5) rfl (by kernel_rfl) ?_
  refine Bk (args := [.tmp 22]) F Fx.fn38 rfl (code_Size_c (a0 := a0.Op)    hc) rfl fun v3 w5 _ hd F => ?_
  obtain ⟨rfl, he⟩ := hd
  have s8 := s6.add he
  have s9 : SL w [] _ [Blk g9 79 [.int .i64 a0.At, .int .u8 (a0.Op.toNat : Int), .int .i64 a0.A, .int .i64 a0.B]] := s8.drop
  refine Ar ⟨s9, ?_⟩
  refine Be (i := 6) rfl (by kernel_rfl) ?_
  refine Bt F (Bq rfl rfl) rfl rfl rfl fun _ F => ?_
  have sa : SL w [] _ [Blk g9 79 [.int .i64 a0.At, .int .u8 (a0.Op.toNat : Int), .int .i64 a0.A, .int .i64 a0.B]] := s8.drop
  refine Ar ⟨sa, ?_⟩
  refine Be (i := 7) rfl (by kernel_rfl) ?_
  refine st_mapset (k := wr (a0.At + x3)) (u := 1) F s8 Tryz.underlying76 Fx.key3 rfl rfl rfl fun w6 _ F sb => ?_
  have sc : SL w [] _ [Blk g9 79 [.int .i64 a0.At, .int .u8 (a0.Op.toNat : Int), .int .i64 a0.A, .int .i64 a0.B]] := sb.drop
  refine Ar ⟨sc, ?_⟩
  refine Ce (by kernel_rfl) ?_
  refine Ac <| Ah <| Ah <| Ak ?_
  obtain ⟨x4, hf, H⟩ := Ap H
  refine Aj F (Aa (Ax Fx.fa79_1 rfl rfl) <| Aa (Az Fx.nag5 rfl (sb.blk_cell (.tail _ <| .head _) rfl)) <| Ad) fun _ F => Bk (args := [.tmp 26]) F Fx.fn30 rfl (code_Jumps_c (a0 := a0.Op)    hf) rfl fun v4 w7 _ hg F => ?_
  obtain ⟨rfl, hh⟩ := hg
  have sd := sb.add hh
  refine Ai <| Ac <| Bm F rfl (fun hi => ?_) (fun hi => ?_)
  ·replace H := Bb hi H
   refine Ak <| Aj F (Aa (Af rfl) <| Aa (Ax Fx.fa79_2 rfl rfl) <| Aa (Az Fx.nag3 rfl (sd.blk_cell (.tail _ <| .head _) rfl)) <| Ad) fun _ F => st_mapset (k := a0.A) (u := 1) F sd Tryz.underlying76 Fx.key3 rfl rfl rfl fun w8 _ F se => Ai <| Ac <| Ah <| Ak ?_
   obtain ⟨x5, hj, H⟩ := Ap H
   refine Aj F (Aa (Af rfl) <| Ad) fun _ F => ?_
   have sf := se
   obtain ⟨G0, hk, hl, hm, hn⟩ := SL.open_ (ps := [Mp (Value.int .i64) (Value.int .i64) g0 (mset (mset ([] : List (Int × Int)) (wr (a0.At + x3)) 1) a0.A 1)]) (rest := [Blk g9 79 [.int .i64 a0.At, .int .u8 (a0.Op.toNat : Int), .int .i64 a0.A, .int .i64 a0.B]]) sf
   refine Bk (args := [.tmp 31]) F Fx.fn72 rfl (flow_rising_int_c (a0 := (mset (mset ([] : List (Int × Int)) (wr (a0.At + x3)) 1) a0.A 1)) hk   hj) rfl fun v5 w9 _ ho F => ?_
   obtain ⟨_, rfl, hp⟩ := ho
   have sg := hn _ _ hp
   refine Aj F (Aa (Al rfl) <| Ad) fun _ F => Ai <| Ac ?_
   obtain rfl := An H
   refine Bd ?_
   refine Av (rs := [.tmp 2]) (vs := [v5]) F (by rfl) ⟨_, _, rfl, Ay rfl, rfl⟩ ⟨_, rfl, ⟨v5, rfl, sg.drop.f1.drop⟩⟩
  replace H := Bc hi H
  refine Aw <| Ac <| Ah <| Ak ?_
  obtain ⟨x6, hq, H⟩ := Ap H
  refine Aj F (Aa (Af rfl) <| Ad) fun _ F => ?_
  have sh := sd
  obtain ⟨G1, hr, hs, ht, hv⟩ := SL.open_ (ps := [Mp (Value.int .i64) (Value.int .i64) g0 (mset ([] : List (Int × Int)) (wr (a0.At + x3)) 1)]) (rest := [Blk g9 79 [.int .i64 a0.At, .int .u8 (a0.Op.toNat : Int), .int .i64 a0.A, .int .i64 a0.B]]) sh
  refine Bk (args := [.tmp 31]) F Fx.fn72 rfl (flow_rising_int_c (a0 := (mset ([] : List (Int × Int)) (wr (a0.At + x3)) 1)) hr   hq) rfl fun v6 wa _ hw F => ?_
  obtain ⟨_, rfl, hx⟩ := hw
  have si := hv _ _ hx
  refine Aj F (Aa (Al rfl) <| Ad) fun _ F => Ai <| Ac ?_
  obtain rfl := An H
  refine Bd ?_
  refine Av (rs := [.tmp 2]) (vs := [v6]) F (by rfl) ⟨_, _, rfl, Ay rfl, rfl⟩ ⟨_, rfl, ⟨v6, rfl, si.drop.f1.drop⟩⟩
 replace H := Bc hb H
 refine Aw <| Ac <| Ah <| Ah <| Ak ?_
 obtain ⟨x7, hy, H⟩ := Ap H
 refine Aj F (Aa (Ax Fx.fa79_1 rfl rfl) <| Aa (Az Fx.nag5 rfl (s5.blk_cell (.tail _ <| .head _) rfl)) <| Ad) fun _ F => Bk (args := [.tmp 26]) F Fx.fn30 rfl (code_Jumps_c (a0 := a0.Op)    hy) rfl fun v7 wb _ hz F => ?_
 obtain ⟨rfl, h10⟩ := hz
 have sj := s5.add h10
 refine Ai <| Ac <| Bm F rfl (fun h11 => ?_) (fun h11 => ?_)
 ·replace H := Bb h11 H
  refine Ak <| Aj F (Aa (Af rfl) <| Aa (Ax Fx.fa79_2 rfl rfl) <| Aa (Az Fx.nag3 rfl (sj.blk_cell (.tail _ <| .head _) rfl)) <| Ad) fun _ F => st_mapset (k := a0.A) (u := 1) F sj Tryz.underlying76 Fx.key3 rfl rfl rfl fun wc _ F sk => Ai <| Ac <| Ah <| Ak ?_
  obtain ⟨x8, h12, H⟩ := Ap H
  refine Aj F (Aa (Af rfl) <| Ad) fun _ F => ?_
  have sl := sk
  obtain ⟨G2, h13, h14, h15, h16⟩ := SL.open_ (ps := [Mp (Value.int .i64) (Value.int .i64) g0 (mset ([] : List (Int × Int)) a0.A 1)]) (rest := [Blk g9 79 [.int .i64 a0.At, .int .u8 (a0.Op.toNat : Int), .int .i64 a0.A, .int .i64 a0.B]]) sl
  refine Bk (args := [.tmp 31]) F Fx.fn72 rfl (flow_rising_int_c (a0 := (mset ([] : List (Int × Int)) a0.A 1)) h13   h12) rfl fun v8 wd _ h17 F => ?_
  obtain ⟨_, rfl, h18⟩ := h17
  have sm := h16 _ _ h18
  refine Aj F (Aa (Al rfl) <| Ad) fun _ F => Ai <| Ac ?_
  obtain rfl := An H
  refine Bd ?_
  refine Av (rs := [.tmp 2]) (vs := [v8]) F (by rfl) ⟨_, _, rfl, Ay rfl, rfl⟩ ⟨_, rfl, ⟨v8, rfl, sm.drop.f1.drop⟩⟩
 replace H := Bc h11 H
 refine Aw <| Ac <| Ah <| Ak ?_
 obtain ⟨x9, h19, H⟩ := Ap H
 refine Aj F (Aa (Af rfl) <| Ad) fun _ F => ?_
 have sn := sj
 obtain ⟨G3, h1a, h1b, h1c, h1d⟩ := SL.open_ (ps := [Mp (Value.int .i64) (Value.int .i64) g0 ([] : List (Int × Int))]) (rest := [Blk g9 79 [.int .i64 a0.At, .int .u8 (a0.Op.toNat : Int), .int .i64 a0.A, .int .i64 a0.B]]) sn
 refine Bk (args := [.tmp 31]) F Fx.fn72 rfl (flow_rising_int_c (a0 := ([] : List (Int × Int))) h1a   h19) rfl fun v9 we _ h1e F => ?_
 obtain ⟨_, rfl, h1f⟩ := h1e
 have so := h1d _ _ h1f
 refine Aj F (Aa (Al rfl) <| Ad) fun _ F => Ai <| Ac ?_
 obtain rfl := An H
 refine Bd ?_
 refine Av (rs := [.tmp 2]) (vs := [v9]) F (by rfl) ⟨_, _, rfl, Ay rfl, rfl⟩ ⟨_, rfl, ⟨v9, rfl, so.drop.f1.drop⟩⟩
-- proviso/flow.Reach
theorem flow_Reach_c {w : World} {v0 : Value} {a0 : List S_api_Instr} {a1 : Int} {r : (List Int)} (hr0 : Rd T_api_Instr w [] v0 a0) (H : flow_Reach a0 a1 = some r) :
    Calls Tryz.prog 51 #[v0, .int .i64 a1] w (Ret fun u_ w_ => ∃ u0 : Value, u_ = u0 ∧ SL w [] w_ [Sl (Ty.int .i64) u0 r]) := by
 have s0 : SL w [] w [] := SL.init0 w
 refine Bn Tryz.func51 rfl Tryz.ntmps51 (Ag rfl) (args := [v0, .int .i64 a1]) fun q0 F0 => ?_
 unfold flow_Reach at H
 refine Ah <| Ak <| Aj F0 (Aa (Al rfl) <| Ad) fun q3 F4 => Ai <| Ac <| Ah <| Ak ?_
 obtain ⟨x0, h0, H⟩ := Ap H
 refine Aj F4 (Aa (Af rfl) <| Ad) fun _ F => Bk (args := [.tmp 11]) F Fx.fn29 rfl (flow_addresses_c (a0 := a0)   (hr0.pass0 s0) h0) rfl fun v1 w0 _ h1 F => ?_
 obtain ⟨g0, rfl, h2⟩ := h1
 have s1 := s0.add h2
 refine Aj F (Aa (Al rfl) <| Ad) fun _ F => Ai <| Ac <| Ah <| Ak <| st_mkmap (Value.int .i64) (Value.int .i64) F s1 rfl fun g1 w1 _ F s2 => Aj F (Aa (Al rfl) <| Ad) fun _ F => Ai <| Ac <| Ah <| Ak <| Aj F (Aa (Af rfl) <| Ad) fun _ F => ?_
 refine Cs (parts := [(0, .tmp 14)]) (Flat.int .i64) ([a1] : List Int) F s2 Fx.sl95 rfl (by decide) rfl rfl rfl (by simp [Value.cells]) rfl rfl rfl fun v2 w2 _ F s3 => ?_
 refine Aj F (Aa (Al rfl) <| Ad) fun _ F => Ai <| Ac <| Ah ?_
 obtain ⟨o0, H0, R0⟩ := Ap H
 clear H
 refine Bx (fun a w_ => Fr a 55 [(6, .map (some g1))] ∧ SL w [] w_ [Mp (Value.int .i64) (Value.int .i64) g1 o0]) ?_ ?_
 ·have H := H0
  refine Bh <| Cu (flow_Reach_b0 a0 x0) (fun s4 a w_ => ∃ v3 : Value, Fr a 55 [(0, v0), (5, .map (some g0)), (6, .map (some g1)), (7, v3)] ∧ SL w [] w_ [Mp (Value.int .i64) (Value.int .i64) g1 s4.1, Mp (Value.int .i64) (Value.int .i64) g0 x0, Sl (Ty.int .i64) v3 s4.2]) H ?_ ?_
  ·exact ⟨v2, F.sub ⟨rfl, rfl, rfl, rfl, trivial⟩, s3.f2.f2⟩
  intro s4 _ w3 h3 o1 H hr
  obtain ⟨v3, F, s5⟩ := h3
  replace H : flow_Reach_b0 a0 x0 s4 = some o1 := H
  unfold flow_Reach_b0 at H
  refine Ah <| Ah <| Ak <| Aj F (Aa (Af rfl) <| Aa (Cc rfl Tryz.underlying95 (Bu (s5.own_rd (.tail _ <| .tail _ <| .head _)))) <| Aa (ex_gt rfl rfl) <| Ad) fun _ F => Ai <| Ac <| Bm F rfl (fun h4 => ?_) (fun h4 => ?_)
  ·replace H := Bb h4 H
   refine Aw <| Ac <| Bh <| Ah <| Ak ?_
   obtain ⟨x1, h5, H⟩ := Ap H
   obtain ⟨a2, h6, h7⟩ := Ch (Flat.int .i64) s5 (.tail _ <| .tail _ <| .head _) Fx.sl95 rfl h5
   refine Aj F (Aa (Af rfl) <| Aa (Af rfl) <| Aa (Cc rfl Tryz.underlying95 (Bu (s5.own_rd (.tail _ <| .tail _ <| .head _)))) <| Aa (ex_sub rfl rfl) <| Aa (h6 _ _ _ _ _ _ _ _ _ _ rfl rfl) <| Aa (Az Fx.nag3 rfl (Cells.at_ (SL.elcells (Flat.int .i64) s5 (.tail _ <| .tail _ <| .head _) h7 h5) (o := 0) rfl)) <| Aa (Al rfl) <| Ad) fun _ F => Ai <| Ac <| Ah <| Ak ?_
   obtain ⟨x2, h8, H⟩ := Ap H
   refine Aj F (Aa (Af rfl) <| Aa (Af rfl) <| Aa (Cc rfl Tryz.underlying95 (Bu (s5.own_rd (.tail _ <| .tail _ <| .head _)))) <| Aa (ex_sub rfl rfl) <| Ad) fun _ F => ?_
   obtain ⟨v4, h9, s6⟩ := SL.cutown s5.f2 Fx.sl95 rfl h8 none (some (wr ((s4.2.length : Int) - 1))) (.inr ⟨rfl, rfl⟩) (.inl rfl)
   refine Bt F (h9 _ _ _ _ _ .i64 .i64 _ _ _ _ _ rfl trivial rfl) rfl rfl rfl fun _ F => Aj F (Aa (Al rfl) <| Ad) fun _ F => Ai <| Ac <| Ah <| Ak <| Aj F (Aa (Af rfl) <| Aa (Af rfl) <| Aa (ex_lookup2 (k := x1) (z0 := (0 : Int)) s6 (.tail _ <| .tail _ <| .head _) Tryz.underlying76 Fx.key3 Fx.mz3 rfl rfl) <| Aa (Af rfl) <| Aa (Au (v := .int .i64 ((mget x0 x1).getD (0 : Int))) rfl rfl) <| Aa (Au (v := .bool ((mget x0 x1).isSome)) rfl rfl) <| Aa (Al rfl) <| Aa (Al rfl) <| Ad) fun _ F => Ai <| Ac <| Ah <| Ah <| Ak <| Aj F (Aa (Af rfl) <| Aa (Da rfl) <| Aa (Af rfl) <| Ad) fun _ F => Bl (!((mget x0 x1).isSome)) (fun ha => ?_) (fun ha => ?_)
   ·replace H := Bb ha H
    refine Ao F rfl rfl (Am rfl ha) Ab rfl rfl fun _ F => Ao F rfl rfl (Am rfl ha) Ab rfl rfl fun _ F => Ao F rfl rfl (Am rfl ha) Ab rfl rfl fun _ F => Ao F rfl rfl (Am rfl ha) Ab rfl rfl fun _ F => Aj F (Aa (Bf (By rfl ha) rfl) <| Ad) fun _ F => Ai <| Ac <| Cz F rfl <| Ca <| Bp <| Cb ?_
    obtain rfl := An H
    refine Ac ?_
    exact ⟨_, rfl, v4, F.sub ⟨rfl, rfl, rfl, rfl, trivial⟩, s6.f2.f2⟩
   replace H := Bc ha H
   refine Aq F rfl rfl (Am rfl ha) (Af rfl) rfl rfl fun _ F => Aq F rfl rfl (Am rfl ha) (Af rfl) rfl rfl fun _ F => Aq F rfl rfl (Am rfl ha) (ex_lookup (k := x1) (z0 := (0 : Int)) s6 (.tail _ <| .head _) Tryz.underlying76 Fx.key3 Fx.mz3 rfl rfl) rfl rfl fun _ F => Aq F rfl rfl (Am rfl ha) (ex_gt rfl rfl) rfl rfl fun _ F => Aj F (Aa (Bi (By rfl ha) rfl) <| Ad) fun _ F => Ai <| Ac <| Bm F rfl (fun hb => ?_) (fun hb => ?_)
   ·replace H := Bb hb H
    refine Ca <| Bp <| Cb ?_
    obtain rfl := An H
    refine Ac ?_
    exact ⟨_, rfl, v4, F.sub ⟨rfl, rfl, rfl, rfl, trivial⟩, s6.f2.f2⟩
   replace H := Bc hb H
   refine Aw <| Ac <| Ah <| Ak <| Aj F (Aa (Af rfl) <| Aa (Af rfl) <| Ad) fun _ F => st_mapset (k := x1) (u := 1) F s6.f1 Tryz.underlying76 Fx.key3 rfl rfl rfl fun w4 _ F s7 => Ai <| Ac <| Ak ?_
   obtain ⟨x3, hc, H⟩ := Ap H
   obtain ⟨a3, hd, he⟩ := Dg F_api_Instr (Cv hr0 s7) Fx.sl67 rfl hc
   obtain ⟨x4, hf, H⟩ := Ap H
   refine Aj F (Aa (Af rfl) <| Aa (Af rfl) <| Aa (Af rfl) <| Aa (hd _ _ _ _ _ _ _ _ _ _ rfl rfl) <| Aa (Bj Fx.agg79 rfl he rfl) <| Ad) fun _ F => Bk (args := [.tmp 50]) F Fx.fn71 rfl (flow_Next_c (a0 := x3)    hf) rfl fun v5 w5 _ hg F => ?_
   obtain ⟨_, rfl, hh⟩ := hg
   have s8 := s7.add hh
   obtain ⟨x5, hi, H⟩ := Ap H
   have s9 := s8.f2
   obtain ⟨_, hr_⟩ := (s9.own_rd (.tail _ <| .head _))
   refine Ci (Flat.int .i64) F s9 Fx.sl95 rfl rfl rfl rfl hr_ rfl rfl hi rfl fun v6 w6 _ F sa => ?_
   have s1801' := sa.f1.drop
   refine Aj F (Aa (Al rfl) <| Ad) fun _ F => Ai <| Bz ?_
   obtain rfl := An H
   refine Ac ?_
   exact ⟨_, rfl, v6, F.sub ⟨rfl, rfl, rfl, rfl, trivial⟩, s1801'.f2.f2⟩
  replace H := Bc h4 H
  refine Ca <| Bp <| Bp <| Cb ?_
  obtain rfl := An H
  obtain rfl := hr _ rfl
  refine Ac ?_
  exact ⟨F.sub ⟨rfl, trivial⟩, s5.f1.drop.f1.drop⟩
 intro _ w7 hJ
 obtain ⟨F, sb⟩ := hJ
 have H := R0
 clear R0 H0
 refine Ac <| Ah <| Ak ?_
 obtain ⟨x6, hj, H⟩ := Ap H
 refine Aj F (Aa (Af rfl) <| Ad) fun _ F => ?_
 have sc := sb
 obtain ⟨G0, hk, hl, hm, hn⟩ := SL.open_ (ps := [Mp (Value.int .i64) (Value.int .i64) g1 o0]) (rest := []) sc
 refine Bk (args := [.tmp 53]) F Fx.fn72 rfl (flow_rising_int_c (a0 := o0) hk   hj) rfl fun v7 w8 _ ho F => ?_
 obtain ⟨_, rfl, hp⟩ := ho
 have sd := hn _ _ hp
 refine Aj F (Aa (Al rfl) <| Ad) fun _ F => Ai <| Ac ?_
 obtain rfl := An H
 refine Bd ?_
 refine Av (rs := [.tmp 4]) (vs := [v7]) F (by rfl) ⟨_, _, rfl, Ay rfl, rfl⟩ ⟨_, rfl, ⟨v7, rfl, sd.drop⟩⟩
-- proviso/opt.left
theorem opt_left_c {w : World} {v0 : Value} {a0 : List S_opt_item} {r : (List S_opt_item)} (hr0 : Rd T_opt_item w [] v0 a0) (H : opt_left a0 = some r) :
    Calls Tryz.prog 52 #[v0] w (Ret fun u_ w_ => ∃ u0 : Value, u_ = u0 ∧ SL w [] w_ [Sl T_opt_item u0 r]) := by
 have s0 : SL w [] w [] := SL.init0 w
 refine Bn Tryz.func52 rfl Tryz.ntmps52 (Ag rfl) (args := [v0]) fun q0 F0 => ?_
 unfold opt_left at H
 refine Ah <| Ak <| Aj F0 (Aa (Al rfl) <| Ad) fun q3 F4 => Ai <| Ac <| Ah <| Ak ?_
 obtain ⟨x0, h0, H⟩ := Ap H
 refine Aj F4 (Aa (Af rfl) <| Aa (Cc rfl Tryz.underlying58 (Bu (Cv hr0 s0))) <| Aa (Bq rfl rfl) <| Ad) fun _ F => st_make (Flat.int .i64) (0 : Int) F s0 Fx.sl95 rfl rfl Fx.zero3 rfl rfl rfl h0 rfl fun v1 w0 _ F s1 => Aj F (Aa (Al rfl) <| Ad) fun _ F => Ai <| Ac <| Ah <| Ak <| Aj F (Aa (Al rfl) <| Ad) fun _ F => Ai <| Ac <| Ah <| Ah <| Ak <| Aj F (Aa (Af rfl) <| Aa (Cc rfl Tryz.underlying58 (Bu (Cv hr0 s1))) <| Aa (Af rfl) <| Ad) fun _ F => Ai <| Ac ?_
 obtain ⟨o0, H0, R0⟩ := Ap H
 clear H
 refine Bx (fun a w_ => ∃ v2 : Value, Fr a 56 [(0, v0), (3, v2), (4, .int .i64 o0.2)] ∧ SL w [] w_ [Sl (Ty.int .i64) v2 o0.1]) ?_ ?_
 ·have H := H0
  refine Bh <| Cu (opt_left_b0 a0) (fun s2 a w_ => ∃ v3 : Value, Fr a 56 [(0, v0), (3, v3), (4, .int .i64 s2.2.1), (14, v0), (15, .int .i64 (a0.length : Int)), (16, .int .i64 s2.2.2)] ∧ SL w [] w_ [Sl (Ty.int .i64) v3 s2.1]) H ?_ ?_
  ·exact ⟨v1, F.sub ⟨rfl, rfl, rfl, rfl, rfl, rfl, trivial⟩, s1⟩
  intro s2 _ w1 h1 o1 H hr
  obtain ⟨v3, F, s3⟩ := h1
  replace H : opt_left_b0 a0 s2 = some o1 := H
  unfold opt_left_b0 at H
  refine Ah <| Ak <| Aj F (Aa (Cr rfl rfl) <| Ad) fun _ F => Ai <| Ac <| Ah <| Bm F rfl (fun h2 => ?_) (fun h2 => ?_)
  ·replace H := Bb h2 H
   refine Aw <| Ac <| Ah <| Bh <| Ah <| Ak ?_
   obtain ⟨x1, h3, H⟩ := Ap H
   obtain ⟨a1, h4, h5⟩ := Dg F_opt_item (Cv hr0 s3) Fx.sl58 rfl h3
   refine Aj F (Aa (Af rfl) <| Aa (h4 _ _ _ _ _ _ _ _ _ _ rfl rfl) <| Aa (Bj Fx.agg83 rfl h5 rfl) <| Ad) fun _ F => Bo F s3 Fx.zero83 rfl rfl fun g0 w2 _ F s4 => Aj F (Aa (Al rfl) <| Ad) fun _ F => ?_
   have s5 := s4
   refine As F s5 rfl rfl Fx.sz83 (Ae rfl (Ae rfl (Ae rfl (Ae rfl (Ae rfl (Ae rfl Ba)))))) (Ag rfl) fun w3 _ F s6 => ?_
   replace s6 : SL w [] w3 [Blk g0 83 [.int .i64 x1.in_.At, .int .u8 (x1.in_.Op.toNat : Int), .int .i64 x1.in_.A, .int .i64 x1.in_.B, .int .i64 x1.to, .bool x1.gone], Sl (Ty.int .i64) v3 s2.1] := s6
   refine Ai <| Ac <| Ah <| Ak ?_
   obtain ⟨x2, h6, H⟩ := Ap H
   obtain ⟨a2, h7, h8⟩ := Ch (Flat.int .i64) s6 (.tail _ <| .head _) Fx.sl95 rfl h6
   refine Aj F (Aa (Af rfl) <| Aa (Af rfl) <| Aa (Af rfl) <| Aa (h7 _ _ _ _ _ _ _ _ _ _ rfl rfl) <| Ad) fun _ F => ?_
   refine Cx (y' := s2.2.1) (Flat.int .i64) F s6.f1 h8 h6 rfl rfl (by rfl) Fx.sz3 fun w4 _ F s7 => ?_
   refine Ai <| Ac <| Ah <| Ak <| Aj F (Aa (Ax Fx.fa83_2 rfl rfl) <| Aa (Az Fx.nag4 rfl (s7.blk_cell (.tail _ <| .head _) rfl)) <| Aa (Da rfl) <| Ad) fun _ F => Ai <| Ac <| Bm F rfl (fun h9 => ?_) (fun h9 => ?_)
   ·replace H := Bb h9 H
    refine Ak <| Aj F (Aa (Af rfl) <| Aa (Bq rfl rfl) <| Aa (Al rfl) <| Ad) fun _ F => Ai <| Bz <| Ac <| Ak <| Aj F (Aa (Bq rfl rfl) <| Aa (Af rfl) <| Ad) fun _ F => Ai ?_
    obtain rfl := An H
    refine Ac ?_
    exact ⟨_, rfl, v3, F.sub ⟨rfl, rfl, rfl, rfl, rfl, rfl, trivial⟩, s7.f1.drop⟩
   replace H := Bc h9 H
   refine Aw <| Bz <| Ac <| Ak <| Aj F (Aa (Bq rfl rfl) <| Aa (Af rfl) <| Ad) fun _ F => Ai ?_
   obtain rfl := An H
   refine Ac ?_
   exact ⟨_, rfl, v3, F.sub ⟨rfl, rfl, rfl, rfl, rfl, rfl, trivial⟩, s7.f1.drop⟩
  replace H := Bc h2 H
  refine Ca <| Bp <| Bp <| Cb ?_
  obtain rfl := An H
  obtain rfl := hr _ rfl
  refine Ac ?_
  exact ⟨v3, F.sub ⟨rfl, rfl, rfl, trivial⟩, s3⟩
 intro _ w5 hJ
 obtain ⟨v2, F, s8⟩ := hJ
 have H := R0
 clear R0 H0
 refine Ac <| Ah <| Ak ?_
 obtain ⟨x3, ha, H⟩ := Ap H
 obtain ⟨a3, hb, hc⟩ := Ch (Flat.int .i64) s8 (.head _) Fx.sl95 rfl ha
 refine Aj F (Aa (Af rfl) <| Aa (Af rfl) <| Aa (Cc rfl Tryz.underlying58 (Bu (Cv hr0 s8))) <| Aa (Af rfl) <| Aa (hb _ _ _ _ _ _ _ _ _ _ rfl rfl) <| Ad) fun _ F => ?_
 refine Cx (y' := o0.2) (Flat.int .i64) F s8 hc ha rfl rfl (by rfl) Fx.sz3 fun w6 _ F s9 => ?_
 refine Ai <| Ac <| Ah <| Ak <| Aj F (Aa (Al rfl) <| Ad) fun _ F => Ai <| Ac <| Ah <| Ah <| Ak <| Aj F (Aa (Af rfl) <| Aa (Cc rfl Tryz.underlying58 (Bu (Cv hr0 s9))) <| Aa (Af rfl) <| Ad) fun _ F => Ai <| Ac ?_
 obtain ⟨o2, H1, R1⟩ := Ap H
 clear H
 refine Bx (fun a w_ => ∃ v4 : Value, Fr a 56 [(7, v4)] ∧ SL w [] w_ [Sl T_opt_item v4 o2]) ?_ ?_
 ·have H := H1
  refine Bh <| Cu (opt_left_b1 a0 o0) (fun sa a w_ => ∃ v5 : Value, Fr a 56 [(3, v2), (7, v5), (36, v0), (37, .int .i64 (a0.length : Int)), (38, .int .i64 sa.2)] ∧ SL w [] w_ [Sl (Ty.int .i64) v2 (o0.1.set (a0.length : Int).toNat o0.2), Sl T_opt_item v5 sa.1]) H ?_ ?_
  ·exact ⟨(.slice none 0 0), F.sub ⟨rfl, rfl, rfl, rfl, rfl, trivial⟩, (SL.nilSl (T := T_opt_item) s9).f1⟩
  intro sa _ w7 hd o3 H hr
  obtain ⟨v5, F, sb⟩ := hd
  replace H : opt_left_b1 a0 o0 sa = some o3 := H
  unfold opt_left_b1 at H
  refine Ah <| Ak <| Aj F (Aa (Cr rfl rfl) <| Ad) fun _ F => Ai <| Ac <| Ah <| Bm F rfl (fun he => ?_) (fun he => ?_)
  ·replace H := Bb he H
   refine Aw <| Ac <| Ah <| Bh <| Ah <| Ak ?_
   obtain ⟨x4, hf, H⟩ := Ap H
   obtain ⟨a4, hg, hh⟩ := Dg F_opt_item (Cv hr0 sb) Fx.sl58 rfl hf
   refine Aj F (Aa (hg _ _ _ _ _ _ _ _ _ _ rfl rfl) <| Aa (Bj Fx.agg83 rfl hh rfl) <| Ad) fun _ F => Bo F sb Fx.zero83 rfl rfl fun g1 w8 _ F sc => ?_
   have sd := sc
   refine As F sd rfl rfl Fx.sz83 (Ae rfl (Ae rfl (Ae rfl (Ae rfl (Ae rfl (Ae rfl Ba)))))) (Ag rfl) fun w9 _ F se => ?_
   replace se : SL w [] w9 [Blk g1 83 [.int .i64 x4.in_.At, .int .u8 (x4.in_.Op.toNat : Int), .int .i64 x4.in_.A, .int .i64 x4.in_.B, .int .i64 x4.to, .bool x4.gone], Sl (Ty.int .i64) v2 (o0.1.set (a0.length : Int).toNat o0.2), Sl T_opt_item v5 sa.1] := se
   refine Ai <| Ac <| Ah <| Ah <| Ak <| Aj F (Aa (Ax Fx.fa83_2 rfl rfl) <| Aa (Az Fx.nag4 rfl (se.blk_cell (.head _) rfl)) <| Ad) fun _ F => Ai <| Ac <| Bm F rfl (fun hi => ?_) (fun hi => ?_)
   ·replace H := Bb hi H
    refine Ca <| Bp <| Cb <| Ac <| Ak <| Aj F (Aa (Bq rfl rfl) <| Aa (Af rfl) <| Ad) fun _ F => Ai ?_
    obtain rfl := An H
    refine Ac ?_
    exact ⟨_, rfl, v5, F.sub ⟨rfl, rfl, rfl, rfl, rfl, trivial⟩, se.drop⟩
   replace H := Bc hi H
   refine Aw <| Ac <| Ah <| Ak ?_
   obtain ⟨x5, hj, H⟩ := Ap H
   obtain ⟨a5, hk, hl⟩ := Ch (Flat.int .i64) se (.tail _ <| .head _) Fx.sl95 rfl hj
   refine Aj F (Aa (Af rfl) <| Aa (Ax Fx.fa83_1 rfl rfl) <| Aa (Az Fx.nag3 rfl (se.blk_cell (.head _) rfl)) <| Aa (hk _ _ _ _ _ _ _ _ _ _ rfl rfl) <| Aa (Az Fx.nag3 rfl (Cells.at_ (SL.elcells (Flat.int .i64) se (.tail _ <| .head _) hl hj) (o := 0) rfl)) <| Aa (Ax Fx.fa83_1 rfl rfl) <| Ad) fun _ F => ?_
   have sf := se
   refine Cq F sf rfl rfl Fx.sz3 rfl rfl rfl fun wa _ F sg => ?_
   replace sg : SL w [] wa [Blk g1 83 [.int .i64 x4.in_.At, .int .u8 (x4.in_.Op.toNat : Int), .int .i64 x4.in_.A, .int .i64 x4.in_.B, .int .i64 x5, .bool x4.gone], Sl (Ty.int .i64) v2 (o0.1.set (a0.length : Int).toNat o0.2), Sl T_opt_item v5 sa.1] := sg
   refine Ai <| Ac <| Ak <| Aj F (Aa (Af rfl) <| Aa (Bj Fx.agg83 rfl (sg.blk_cells (.head _) (o := 0) (ds := [.int .i64 x4.in_.At, .int .u8 (x4.in_.Op.toNat : Int), .int .i64 x4.in_.A, .int .i64 x4.in_.B, .int .i64 x5, .bool x4.gone]) (fun j u hu => by rw [Nat.zero_add]; exact hu)) rfl) <| Ad) fun _ F => ?_
   refine Cs (parts := [(0, .tmp 51)]) F_opt_item ([(⟨(⟨x4.in_.At, x4.in_.Op, x4.in_.A, x4.in_.B⟩ : S_api_Instr), x5, x4.gone⟩ : S_opt_item)] : List S_opt_item) F sg Fx.sl58 rfl (by decide) rfl rfl rfl (by simp [Value.cells]) rfl rfl rfl fun v6 wb _ F sh => ?_
   obtain ⟨x6, hm, H⟩ := Ap H
   have si := sh.f3
   obtain ⟨_, hr_⟩ := (si.own_rd (.tail _ <| .head _))
   refine Ci F_opt_item F si Fx.sl58 rfl rfl rfl rfl hr_ rfl rfl hm rfl fun v7 wc _ F sj => ?_
   have s8333' := sj.f1.drop
   refine Aj F (Aa (Al rfl) <| Ad) fun _ F => Ai <| Bz <| Ac <| Ak <| Aj F (Aa (Bq rfl rfl) <| Aa (Af rfl) <| Ad) fun _ F => Ai ?_
   obtain rfl := An H
   refine Ac ?_
   exact ⟨_, rfl, v7, F.sub ⟨rfl, rfl, rfl, rfl, rfl, trivial⟩, s8333'.f1.drop.f1⟩
  replace H := Bc he H
  refine Ca <| Bp <| Bp <| Cb ?_
  obtain rfl := An H
  obtain rfl := hr _ rfl
  refine Ac ?_
  exact ⟨v5, F.sub ⟨rfl, trivial⟩, sb.drop⟩
 intro _ wd hJ
 obtain ⟨v4, F, sk⟩ := hJ
 have H := R1
 clear R1 H1
 refine Ac <| Ah <| Ak <| Aj F (Aa (Af rfl) <| Aa (Al rfl) <| Ad) fun _ F => Ai <| Ac ?_
 obtain rfl := An H
 refine Bd ?_
 refine Av (rs := [.tmp 2]) (vs := [v4]) F (by rfl) ⟨_, _, rfl, Ay rfl, rfl⟩ ⟨_, rfl, ⟨v4, rfl, sk⟩⟩
-- proviso/opt.dead
theorem opt_dead_c {w : World} {FF : List Nat} {v0 : Value} {a0 : List S_opt_item} {r : (List S_opt_item) × Bool} (hst : Star [Sl T_opt_item v0 a0] w FF)  (H : opt_dead a0 = some r) :
    Calls Tryz.prog 33 #[v0] w (Ret fun u_ w_ => ∃ u0 : Value, u_ = .tuple ⟨[u0, .bool r.2]⟩ ∧ SL w FF w_ [Sl T_opt_item u0 r.1]) := by
 have s0 : SL w FF w [Sl T_opt_item v0 a0] := SL.init w FF hst
 refine Bn Tryz.func33 rfl Tryz.ntmps33 (Ag rfl) (args := [v0]) fun q0 F0 => ?_
 unfold opt_dead at H
 refine Ah <| Ak <| Aj F0 (Aa (Al rfl) <| Aa (Al rfl) <| Ad) fun q3 F4 => Ai <| Ac <| Ah <| Ak ?_
 obtain ⟨x0, h0, H⟩ := Ap H
 refine Aj F4 (Aa (Af rfl) <| Ad) fun _ F => Bk (args := [.tmp 10]) F Fx.fn23 rfl (opt_laid_c (a0 := a0)   (s0.rd0 (.head _)) h0) rfl fun v1 w0 _ h1 F => ?_
 obtain ⟨_, rfl, h2⟩ := h1
 have s1 := s0.add h2
 refine Aj F (Aa (Al rfl) <| Ad) fun _ F => Ai <| Ac <| Ah <| Ak <| st_mkmap (Value.int .i64) (Value.int .i64) F s1 rfl fun g0 w1 _ F s2 => Aj F (Aa (Al rfl) <| Ad) fun _ F => Ai <| Ac <| Ah <| Ah <| Ak ?_
 obtain ⟨x1, h3, H⟩ := Ap H
 refine Aj F (Aa (Af rfl) <| Ad) fun _ F => Bk (args := [.tmp 13, .const (.int .i64 0)]) F Fx.fn51 rfl (flow_Reach_c (a0 := x0) (a1 := 0)   (s2.rd0 (.tail _ <| .head _)) h3) rfl fun v2 w2 _ h4 F => ?_
 obtain ⟨_, rfl, h5⟩ := h4
 have s3 := s2.add h5
 refine Aj F (Aa (Cc rfl Tryz.underlying95 (Bu (s3.own_rd (.head _)))) <| Aa (Af rfl) <| Ad) fun _ F => Ai <| Ac ?_
 obtain ⟨o0, H0, R0⟩ := Ap H
 clear H
 refine Bx (fun a w_ => Fr a 52 [(0, v0), (4, v1), (5, .map (some g0))] ∧ SL w FF w_ [Mp (Value.int .i64) (Value.int .i64) g0 o0, Sl T_api_Instr v1 x0, Sl T_opt_item v0 a0]) ?_ ?_
 ·have H := H0
  refine Bh <| Cu (opt_dead_b0 x1) (fun s4 a w_ => Fr a 52 [(0, v0), (4, v1), (5, .map (some g0)), (14, v2), (15, .int .i64 (x1.length : Int)), (16, .int .i64 s4.2)] ∧ SL w FF w_ [Sl (Ty.int .i64) v2 x1, Mp (Value.int .i64) (Value.int .i64) g0 s4.1, Sl T_api_Instr v1 x0, Sl T_opt_item v0 a0]) H ?_ ?_
  ·exact ⟨F.sub ⟨rfl, rfl, rfl, rfl, rfl, rfl, trivial⟩, s3⟩
  intro s4 _ w3 h6 o1 H hr
  obtain ⟨F, s5⟩ := h6
  replace H : opt_dead_b0 x1 s4 = some o1 := H
  unfold opt_dead_b0 at H
  refine Ah <| Ak <| Aj F (Aa (Cr rfl rfl) <| Ad) fun _ F => Ai <| Ac <| Ah <| Bm F rfl (fun h7 => ?_) (fun h7 => ?_)
  ·replace H := Bb h7 H
   refine Aw <| Ac <| Ah <| Bh <| Ah <| Ak ?_
   obtain ⟨x2, h8, H⟩ := Ap H
   obtain ⟨a2, h9, ha⟩ := Ch (Flat.int .i64) s5 (.head _) Fx.sl95 rfl h8
   refine Aj F (Aa (h9 _ _ _ _ _ _ _ _ _ _ rfl rfl) <| Aa (Az Fx.nag3 rfl (Cells.at_ (SL.elcells (Flat.int .i64) s5 (.head _) ha h8) (o := 0) rfl)) <| Aa (Al rfl) <| Ad) fun _ F => Ai <| Ac <| Ak <| Aj F (Aa (Af rfl) <| Aa (Af rfl) <| Ad) fun _ F => st_mapset (k := x2) (u := 1) F s5.f1 Tryz.underlying76 Fx.key3 rfl rfl rfl fun w4 _ F s6 => Ai <| Bz <| Ac <| Ak <| Aj F (Aa (Bq rfl rfl) <| Aa (Af rfl) <| Ad) fun _ F => Ai ?_
   obtain rfl := An H
   refine Ac ?_
   exact ⟨_, rfl, F.sub ⟨rfl, rfl, rfl, rfl, rfl, rfl, trivial⟩, s6.f3.f3.f2.f3⟩
  replace H := Bc h7 H
  refine Ca <| Bp <| Bp <| Cb ?_
  obtain rfl := An H
  obtain rfl := hr _ rfl
  refine Ac ?_
  exact ⟨F.sub ⟨rfl, rfl, rfl, trivial⟩, s5.drop⟩
 intro _ w5 hJ
 obtain ⟨F, s7⟩ := hJ
 have H := R0
 clear R0 H0
 refine Ac <| Ah <| Ak <| Aj F (Aa (Al rfl) <| Ad) fun _ F => Ai <| Ac <| Ah <| Ah <| Ak <| Aj F (Aa (Af rfl) <| Aa (Cc rfl Tryz.underlying58 (Bu (s7.own_rd (.tail _ <| .tail _ <| .head _)))) <| Aa (Af rfl) <| Ad) fun _ F => Ai <| Ac ?_
 obtain ⟨o2, H1, R1⟩ := Ap H
 clear H
 refine Bx (fun a w_ => ∃ v3 : Value, Fr a 52 [(0, v3), (8, .bool o2.2)] ∧ SL w FF w_ [Sl T_opt_item v3 o2.1]) ?_ ?_
 ·have H := H1
  refine Bh <| Cu (opt_dead_b1 a0 x0 o0) (fun s8 a w_ => ∃ v4 : Value, Fr a 52 [(0, v4), (4, v1), (5, .map (some g0)), (8, .bool s8.2.1), (24, .int .i64 (a0.length : Int)), (25, .int .i64 s8.2.2)] ∧ SL w FF w_ [Mp (Value.int .i64) (Value.int .i64) g0 o0, Sl T_api_Instr v1 x0, Sl T_opt_item v4 s8.1]) H ?_ ?_
  ·exact ⟨v0, F.sub ⟨rfl, rfl, rfl, rfl, rfl, rfl, trivial⟩, s7⟩
  intro s8 _ w6 hb o3 H hr
  obtain ⟨v4, F, s9⟩ := hb
  replace H : opt_dead_b1 a0 x0 o0 s8 = some o3 := H
  unfold opt_dead_b1 at H
  refine Ah <| Ak <| Aj F (Aa (Cr rfl rfl) <| Ad) fun _ F => Ai <| Ac <| Ah <| Bm F rfl (fun hc => ?_) (fun hc => ?_)
  ·replace H := Bb hc H
   refine Aw <| Ac <| Ah <| Bh <| Ah <| Ak <| Aj F (Aa (Af rfl) <| Aa (Al rfl) <| Ad) fun _ F => Ai <| Ac <| Ah <| Ak ?_
   obtain ⟨x3, hd, H⟩ := Ap H
   obtain ⟨a3, he, hf⟩ := Ch F_api_Instr s9 (.tail _ <| .head _) Fx.sl67 rfl hd
   obtain ⟨x4, hg, H⟩ := Ap H
   obtain ⟨a4, hh, hi⟩ := Ch F_opt_item s9 (.tail _ <| .tail _ <| .head _) Fx.sl58 rfl hg
   refine Aj F (Aa (Af rfl) <| Aa (Af rfl) <| Aa (Af rfl) <| Aa (Af rfl) <| Aa (Af rfl) <| Aa (he _ _ _ _ _ _ _ _ _ _ rfl rfl) <| Aa (Cw Fx.fa79_0 rfl) <| Aa (Az Fx.nag3 rfl (Cells.at_ (SL.elcells F_api_Instr s9 (.tail _ <| .head _) hf hd) (o := 0) rfl)) <| Aa (ex_lookup (k := x3.At) (z0 := (0 : Int)) s9 (.head _) Tryz.underlying76 Fx.key3 Fx.mz3 rfl rfl) <| Aa (Bw rfl rfl) <| Aa (hh _ _ _ _ _ _ _ _ _ _ rfl rfl) <| Aa (Cw Fx.fa83_2 rfl) <| Ad) fun _ F => ?_
   refine Di (y' := (⟨(⟨x4.in_.At, x4.in_.Op, x4.in_.A, x4.in_.B⟩ : S_api_Instr), x4.to, (((mget o0 x3.At).getD (0 : Int)) == 0)⟩ : S_opt_item)) (o := 5) (ds := [.bool (((mget o0 x3.At).getD (0 : Int)) == 0)]) F_opt_item F s9.f2 hi hg rfl rfl (by rfl) Fx.sz4 (by rfl) (Ae rfl Ba) (by rfl) fun w7 _ F sa => ?_
   refine Ai <| Ac <| Ak <| Aj F (Aa (Af rfl) <| Aa (Af rfl) <| Ad) fun _ F => Bl s8.2.1 (fun hj => ?_) (fun hj => ?_)
   ·replace H := Bb hj H
    refine Ao F rfl rfl (Am rfl hj) Ab rfl rfl fun _ F => Ao F rfl rfl (Am rfl hj) Ab rfl rfl fun _ F => Ao F rfl rfl (Am rfl hj) Ab rfl rfl fun _ F => Ao F rfl rfl (Am rfl hj) Ab rfl rfl fun _ F => Ao F rfl rfl (Am rfl hj) Ab rfl rfl fun _ F => Aj F (Aa (Bf (By rfl hj) rfl) <| Aa (Al rfl) <| Ad) fun _ F => Ai <| Bz <| Ac <| Ak <| Aj F (Aa (Bq rfl rfl) <| Aa (Af rfl) <| Ad) fun _ F => Ai ?_
    obtain rfl := An H
    refine Ac ?_
    exact ⟨_, rfl, v4, F.sub ⟨rfl, rfl, rfl, rfl, rfl, rfl, trivial⟩, sa.f2.f2⟩
   replace H := Bc hj H
   refine Aq F rfl rfl (Am rfl hj) (Af rfl) rfl rfl fun _ F => Aq F rfl rfl (Am rfl hj) (Af rfl) rfl rfl fun _ F => ?_
   obtain ⟨x5, hk, H⟩ := Ap H
   obtain ⟨a5, hl, hm⟩ := Ch F_opt_item sa (.head _) Fx.sl58 rfl hk
   refine Aq F rfl rfl (Am rfl hj) (hl _ _ _ _ _ _ _ _ _ _ rfl rfl) rfl rfl fun _ F => Aq F rfl rfl (Am rfl hj) (Cw Fx.fa83_2 rfl) rfl rfl fun _ F => Aq F rfl rfl (Am rfl hj) (Az Fx.nag4 rfl (Cells.at_ (SL.elcells F_opt_item sa (.head _) hm hk) (o := 5) rfl)) rfl rfl fun _ F => Aj F (Aa (Bi (By rfl hj) rfl) <| Aa (Al rfl) <| Ad) fun _ F => Ai <| Bz <| Ac <| Ak <| Aj F (Aa (Bq rfl rfl) <| Aa (Af rfl) <| Ad) fun _ F => Ai ?_
   obtain rfl := An H
   refine Ac ?_
   exact ⟨_, rfl, v4, F.sub ⟨rfl, rfl, rfl, rfl, rfl, rfl, trivial⟩, sa.f2.f2⟩
  replace H := Bc hc H
  refine Ca <| Bp <| Bp <| Cb ?_
  obtain rfl := An H
  obtain rfl := hr _ rfl
  refine Ac ?_
  exact ⟨v4, F.sub ⟨rfl, rfl, trivial⟩, s9.drop.drop⟩
 intro _ w8 hJ
 obtain ⟨v3, F, sb⟩ := hJ
 have H := R1
 clear R1 H1
 refine Ac <| Ah <| Ak ?_
 obtain ⟨x6, hn, H⟩ := Ap H
 refine Aj F (Aa (Af rfl) <| Ad) fun _ F => Bk (args := [.tmp 49]) F Fx.fn52 rfl (opt_left_c (a0 := o2.1)   (sb.rd0 (.head _)) hn) rfl fun v5 w9 _ ho F => ?_
 obtain ⟨_, rfl, hp⟩ := ho
 have sc := sb.add hp
 refine Aj F (Aa (Af rfl) <| Aa (Al rfl) <| Aa (Al rfl) <| Ad) fun _ F => Ai <| Ac ?_
 obtain rfl := An H
 refine Bd ?_
 refine Av (rs := [.tmp 2, .tmp 3]) (vs := [v5, .bool o2.2]) F (by rfl) ⟨_, _, rfl, Ay rfl, _, _, rfl, Ay rfl, rfl⟩ ⟨_, rfl, ⟨v5, rfl, sc.f1.drop⟩⟩
-- proviso/opt.empty
theorem opt_empty_c {w : World} {FF : List Nat} {v0 : Value} {a0 : List S_opt_item} {r : (List S_opt_item) × Bool} (hst : Star [Sl T_opt_item v0 a0] w FF)  (H : opt_empty a0 = some r) :
    Calls Tryz.prog 34 #[v0] w (Ret fun u_ w_ => ∃ u0 : Value, u_ = .tuple ⟨[u0, .bool r.2]⟩ ∧ SL w FF w_ [Sl T_opt_item u0 r.1]) := by
 have s0 : SL w FF w [Sl T_opt_item v0 a0] := SL.init w FF hst
 refine Bn Tryz.func34 rfl Tryz.ntmps34 (Ag rfl) (args := [v0]) fun q0 F0 => ?_
 unfold opt_empty at H
 refine Ah <| Ak <| Aj F0 (Aa (Al rfl) <| Aa (Al rfl) <| Ad) fun q3 F4 => Ai <| Ac <| Ah <| Ak <| Aj F4 (Aa (Al rfl) <| Ad) fun q7 F8 => Ai <| Ac <| Ah <| Ah <| Ak <| Aj F8 (Aa (Af rfl) <| Aa (Cc rfl Tryz.underlying58 (Bu (s0.own_rd (.head _)))) <| Aa (Af rfl) <| Ad) fun _ F => Ai <| Ac ?_
 obtain ⟨o0, H0, R0⟩ := Ap H
 clear H
 refine Bx (fun a w_ => ∃ v1 : Value, Fr a 60 [(0, v1), (4, .bool o0.2)] ∧ SL w FF w_ [Sl T_opt_item v1 o0.1]) ?_ ?_
 ·have H := H0
  refine Bh <| Cu (opt_empty_b0 a0) (fun s1 a w_ => ∃ v2 : Value, Fr a 60 [(0, v2), (4, .bool s1.2.1), (9, .int .i64 (a0.length : Int)), (10, .int .i64 s1.2.2)] ∧ SL w FF w_ [Sl T_opt_item v2 s1.1]) H ?_ ?_
  ·exact ⟨v0, F.sub ⟨rfl, rfl, rfl, rfl, trivial⟩, s0⟩
  intro s1 _ w0 h0 o1 H hr
  obtain ⟨v2, F, s2⟩ := h0
  replace H : opt_empty_b0 a0 s1 = some o1 := H
  unfold opt_empty_b0 at H
  refine Ah <| Ak <| Aj F (Aa (Cr rfl rfl) <| Ad) fun _ F => Ai <| Ac <| Ah <| Bm F rfl (fun h1 => ?_) (fun h1 => ?_)
  ·replace H := Bb h1 H
   refine Aw <| Ac <| Ah <| Bh <| Ah <| Ak <| Aj F (Aa (Af rfl) <| Aa (Al rfl) <| Ad) fun _ F => Ai <| Ac <| Ah <| Ak ?_
   obtain ⟨x0, h2, H⟩ := Ap H
   obtain ⟨a1, h3, h4⟩ := Ch F_opt_item s2 (.head _) Fx.sl58 rfl h2
   refine Aj F (Aa (Af rfl) <| Aa (Af rfl) <| Aa (h3 _ _ _ _ _ _ _ _ _ _ rfl rfl) <| Aa (Al rfl) <| Ad) fun _ F => Ai <| Ac <| Ah <| Ak <| Aj F (Aa (Af rfl) <| Aa (ex_nilcheck rfl) <| Aa (Cw Fx.fa83_1 rfl) <| Aa (Az Fx.nag3 rfl (Cells.at_ (SL.elcells F_opt_item s2 (.head _) h4 h2) (o := 4) rfl)) <| Aa (Af rfl) <| Aa (Bq rfl rfl) <| Aa (Bw rfl rfl) <| Aa (Al rfl) <| Ad) fun _ F => Ai <| Ac <| Bh <| Ah ?_
   obtain ⟨o2, H1, R1⟩ := Ap H
   clear H
   refine Bx (fun a w_ => Fr a 60 [(0, v2), (4, .bool s1.2.1), (6, .pointer (some a1)), (7, .bool (x0.to == (wr (s1.2.2 + 1)))), (9, .int .i64 (a0.length : Int)), (10, .int .i64 s1.2.2), (23, .bool o2)] ∧ SL w FF w_ [Sl T_opt_item v2 s1.1]) ?_ ?_
   ·have H := H1
    refine Ah <| Ak <| Aj F (Aa (Af rfl) <| Aa (ex_nilcheck rfl) <| Aa (Cw Fx.fa83_0 rfl) <| Aa (ex_fae Fx.fa79_1 rfl rfl) <| Aa (Az Fx.nag5 rfl (Cells.at_ (SL.elcells F_opt_item s2 (.head _) h4 h2) (o := 1) rfl)) <| Aa (Bw rfl rfl) <| Aa (Al rfl) <| Ad) fun _ F => Ai <| Ac <| Bm F rfl (fun h5 => ?_) (fun h5 => ?_)
    ·replace H := Bb h5 H
     refine Aw ?_
     obtain rfl := An H
     refine Ac ?_
     exact ⟨F.sub ⟨rfl, rfl, rfl, rfl, rfl, rfl, rfl, trivial⟩, s2⟩
    replace H := Bc h5 H
    refine Ak <| Aj F (Aa (Af rfl) <| Aa (ex_nilcheck rfl) <| Aa (Cw Fx.fa83_0 rfl) <| Aa (ex_fae Fx.fa79_1 rfl rfl) <| Aa (Az Fx.nag5 rfl (Cells.at_ (SL.elcells F_opt_item s2 (.head _) h4 h2) (o := 1) rfl)) <| Aa (Bw rfl rfl) <| Aa (Af rfl) <| Ad) fun _ F => Bl ((x0.in_.Op.toNat : Int) == 19) (fun h6 => ?_) (fun h6 => ?_)
    ·replace H := Bb h6 H
     refine Aq F rfl rfl (Am rfl h6) (Af rfl) rfl rfl fun _ F => Aj F (Aa (Bf (By rfl h6) rfl) <| Aa (Al rfl) <| Ad) fun _ F => Ai ?_
     obtain rfl := An H
     refine Ac ?_
     exact ⟨F.sub ⟨rfl, rfl, rfl, rfl, rfl, rfl, rfl, trivial⟩, s2⟩
    replace H := Bc h6 H
    refine Ao F rfl rfl (Am rfl h6) Ab rfl rfl fun _ F => Aj F (Aa (Bi (By rfl h6) rfl) <| Aa (Al rfl) <| Ad) fun _ F => Ai ?_
    obtain rfl := An H
    refine Ac ?_
    exact ⟨F.sub ⟨rfl, rfl, rfl, rfl, rfl, rfl, rfl, trivial⟩, s2⟩
   intro _ w1 hJ
   obtain ⟨F, s3⟩ := hJ
   have H := R1
   clear R1 H1
   refine Ac <| Bm F rfl (fun h7 => ?_) (fun h7 => ?_)
   ·replace H := Bb h7 H
    refine Ak ?_
    obtain ⟨x1, h8, H⟩ := Ap H
    refine Aj F (Aa (Af rfl) <| Aa (ex_nilcheck rfl) <| Aa (Cw Fx.fa83_2 rfl) <| Ad) fun _ F => ?_
    refine Di (y' := (⟨(⟨x1.in_.At, x1.in_.Op, x1.in_.A, x1.in_.B⟩ : S_api_Instr), x1.to, true⟩ : S_opt_item)) (o := 5) (ds := [.bool true]) F_opt_item F s3 h4 h8 rfl rfl (by rfl) Fx.sz4 (by rfl) (Ae rfl Ba) (by rfl) fun w2 _ F s4 => ?_
    refine Aj F (Aa (Al rfl) <| Ad) fun _ F => Ai <| Bz <| Bz <| Ac <| Ak <| Aj F (Aa (Bq rfl rfl) <| Aa (Af rfl) <| Ad) fun _ F => Ai ?_
    obtain rfl := An H
    refine Ac ?_
    exact ⟨_, rfl, v2, F.sub ⟨rfl, rfl, rfl, rfl, trivial⟩, s4⟩
   replace H := Bc h7 H
   refine Ah <| Ak ?_
   obtain ⟨x2, h9, H⟩ := Ap H
   refine Aj F (Aa (Af rfl) <| Aa (ex_nilcheck rfl) <| Aa (Cw Fx.fa83_0 rfl) <| Aa (ex_fae Fx.fa79_1 rfl rfl) <| Aa (Az Fx.nag5 rfl (Cells.at_ (SL.elcells F_opt_item s3 (.head _) h4 h9) (o := 1) rfl)) <| Aa (Bw rfl rfl) <| Aa (Af rfl) <| Ad) fun _ F => Bl ((x2.in_.Op.toNat : Int) == 20) (fun ha => ?_) (fun ha => ?_)
   ·replace H := Bb ha H
    refine Aq F rfl rfl (Am rfl ha) (Af rfl) rfl rfl fun _ F => Aj F (Aa (Bf (By rfl ha) rfl) <| Aa (Al rfl) <| Ad) fun _ F => Ai <| Ac <| Bm F rfl (fun hb => ?_) (fun hb => ?_)
    ·replace H := Bb hb H
     refine Ah <| Ak ?_
     obtain ⟨x3, hc, H⟩ := Ap H
     refine Aj F (Aa (Af rfl) <| Aa (Cn (vs := [.int .u8 6]) Fx.zero79 Fx.pl79 rfl (cs := [.int .i64 0, .int .u8 6, .int .i64 0, .int .i64 0]) (rfl)) <| Aa (Cn (vs := [.agg ⟨[.int .i64 0, .int .u8 6, .int .i64 0, .int .i64 0]⟩]) Fx.zero83 Fx.pl83 rfl (cs := [.int .i64 0, .int .u8 6, .int .i64 0, .int .i64 0, .int .i64 0, .bool false]) (rfl)) <| Aa (ex_nilcheck rfl) <| Ad) fun _ F => ?_
     refine Cx (y' := (⟨(⟨0, 6, 0, 0⟩ : S_api_Instr), 0, false⟩ : S_opt_item)) F_opt_item F s3 h4 hc rfl rfl (by rfl) Fx.sz83 fun w3 _ F s5 => ?_
     refine Ai <| Ac <| Ak <| Aj F (Aa (Al rfl) <| Ad) fun _ F => Ai <| Bz <| Bz <| Ac <| Ak <| Aj F (Aa (Bq rfl rfl) <| Aa (Af rfl) <| Ad) fun _ F => Ai ?_
     obtain rfl := An H
     refine Ac ?_
     exact ⟨_, rfl, v2, F.sub ⟨rfl, rfl, rfl, rfl, trivial⟩, s5⟩
    replace H := Bc hb H
    refine Aw <| Bz <| Bz <| Ac <| Ak <| Aj F (Aa (Bq rfl rfl) <| Aa (Af rfl) <| Ad) fun _ F => Ai ?_
    obtain rfl := An H
    refine Ac ?_
    exact ⟨_, rfl, v2, F.sub ⟨rfl, rfl, rfl, rfl, trivial⟩, s3⟩
   replace H := Bc ha H
   refine Ao F rfl rfl (Am rfl ha) Ab rfl rfl fun _ F => Aj F (Aa (Bi (By rfl ha) rfl) <| Aa (Al rfl) <| Ad) fun _ F => Ai <| Ac <| Cm F rfl <| Aw <| Bz <| Bz <| Ac <| Ak <| Aj F (Aa (Bq rfl rfl) <| Aa (Af rfl) <| Ad) fun _ F => Ai ?_
   obtain rfl := An H
   refine Ac ?_
   exact ⟨_, rfl, v2, F.sub ⟨rfl, rfl, rfl, rfl, trivial⟩, s3⟩
  replace H := Bc h1 H
  refine Ca <| Bp <| Bp <| Cb ?_
  obtain rfl := An H
  obtain rfl := hr _ rfl
  refine Ac ?_
  exact ⟨v2, F.sub ⟨rfl, rfl, trivial⟩, s2⟩
 intro _ w4 hJ
 obtain ⟨v1, F, s6⟩ := hJ
 have H := R0
 clear R0 H0
 refine Ac <| Ah <| Ak ?_
 obtain ⟨x4, hd, H⟩ := Ap H
 refine Aj F (Aa (Af rfl) <| Ad) fun _ F => Bk (args := [.tmp 57]) F Fx.fn52 rfl (opt_left_c (a0 := o0.1)   (s6.rd0 (.head _)) hd) rfl fun v3 w5 _ he F => ?_
 obtain ⟨_, rfl, hf⟩ := he
 have s7 := s6.add hf
 refine Aj F (Aa (Af rfl) <| Aa (Al rfl) <| Aa (Al rfl) <| Ad) fun _ F => Ai <| Ac ?_
 obtain rfl := An H
 refine Bd ?_
 refine Av (rs := [.tmp 2, .tmp 3]) (vs := [v3, .bool o0.2]) F (by rfl) ⟨_, _, rfl, Ay rfl, _, _, rfl, Ay rfl, rfl⟩ ⟨_, rfl, ⟨v3, rfl, s7.f1.drop⟩⟩
-- proviso/opt.led
theorem opt_led_c {w : World} {v0 : Value} {a0 : List S_opt_item} {r : (List Bool)} (hr0 : Rd T_opt_item w [] v0 a0) (H : opt_led a0 = some r) :
    Calls Tryz.prog 53 #[v0] w (Ret fun u_ w_ => ∃ u0 : Value, u_ = u0 ∧ SL w [] w_ [Sl Ty.bool u0 r]) := by
 have s0 : SL w [] w [] := SL.init0 w
 refine Bn Tryz.func53 rfl Tryz.ntmps53 (Ag rfl) (args := [v0]) fun q0 F0 => ?_
 unfold opt_led at H
 refine Ah <| Ak <| Aj F0 (Aa (Al rfl) <| Ad) fun q3 F4 => Ai <| Ac <| Ah <| Ak ?_
 obtain ⟨x0, h0, H⟩ := Ap H
 refine Aj F4 (Aa (Af rfl) <| Aa (Cc rfl Tryz.underlying58 (Bu (Cv hr0 s0))) <| Ad) fun _ F => st_make Flat.bool false F s0 Fx.sl99 rfl rfl Fx.zero4 rfl rfl rfl h0 rfl fun v1 w0 _ F s1 => Aj F (Aa (Al rfl) <| Ad) fun _ F => Ai <| Ac <| Ah <| Ah <| Ak <| Aj F (Aa (Af rfl) <| Aa (Cc rfl Tryz.underlying58 (Bu (Cv hr0 s1))) <| Aa (Af rfl) <| Ad) fun _ F => Ai <| Ac ?_
 obtain ⟨o0, H0, R0⟩ := Ap H
 clear H
 refine Bx (fun a w_ => ∃ v2 : Value, Fr a 25 [(3, v2)] ∧ SL w [] w_ [Sl Ty.bool v2 o0]) ?_ ?_
 ·have H := H0
  refine Bh <| Cu (opt_led_b0 a0) (fun s2 a w_ => ∃ v3 : Value, Fr a 25 [(3, v3), (9, v0), (10, .int .i64 (a0.length : Int)), (11, .int .i64 s2.2)] ∧ SL w [] w_ [Sl Ty.bool v3 s2.1]) H ?_ ?_
  ·exact ⟨v1, F.sub ⟨rfl, rfl, rfl, rfl, trivial⟩, s1⟩
  intro s2 _ w1 h1 o1 H hr
  obtain ⟨v3, F, s3⟩ := h1
  replace H : opt_led_b0 a0 s2 = some o1 := H
  unfold opt_led_b0 at H
  refine Ah <| Ak <| Aj F (Aa (Cr rfl rfl) <| Ad) fun _ F => Ai <| Ac <| Ah <| Bm F rfl (fun h2 => ?_) (fun h2 => ?_)
  ·replace H := Bb h2 H
   refine Aw <| Ac <| Ah <| Bh <| Ah <| Ak ?_
   obtain ⟨x1, h3, H⟩ := Ap H
   obtain ⟨a1, h4, h5⟩ := Dg F_opt_item (Cv hr0 s3) Fx.sl58 rfl h3
   refine Aj F (Aa (h4 _ _ _ _ _ _ _ _ _ _ rfl rfl) <| Aa (Bj Fx.agg83 rfl h5 rfl) <| Ad) fun _ F => Bo F s3 Fx.zero83 rfl rfl fun g0 w2 _ F s4 => ?_
   have s5 := s4
   refine As F s5 rfl rfl Fx.sz83 (Ae rfl (Ae rfl (Ae rfl (Ae rfl (Ae rfl (Ae rfl Ba)))))) (Ag rfl) fun w3 _ F s6 => ?_
   replace s6 : SL w [] w3 [Blk g0 83 [.int .i64 x1.in_.At, .int .u8 (x1.in_.Op.toNat : Int), .int .i64 x1.in_.A, .int .i64 x1.in_.B, .int .i64 x1.to, .bool x1.gone], Sl Ty.bool v3 s2.1] := s6
   refine Ai <| Ac <| Ah <| Ak ?_
   obtain ⟨x2, h6, H⟩ := Ap H
   refine Aj F (Aa (Ax Fx.fa83_0 rfl rfl) <| Aa (Ax Fx.fa79_1 rfl rfl) <| Aa (Az Fx.nag5 rfl (s6.blk_cell (.head _) rfl)) <| Ad) fun _ F => Bk (args := [.tmp 17]) F Fx.fn30 rfl (code_Jumps_c (a0 := x1.in_.Op)    h6) rfl fun v4 w4 _ h7 F => ?_
   obtain ⟨rfl, h8⟩ := h7
   have s7 := s6.add h8
   refine Ai <| Ac <| Bm F rfl (fun h9 => ?_) (fun h9 => ?_)
   ·replace H := Bb h9 H
    refine Ak ?_
    obtain ⟨x3, ha, H⟩ := Ap H
    obtain ⟨a2, hb, hc⟩ := Ch Flat.bool s7 (.tail _ <| .head _) Fx.sl99 rfl ha
    refine Aj F (Aa (Af rfl) <| Aa (Ax Fx.fa83_1 rfl rfl) <| Aa (Az Fx.nag3 rfl (s7.blk_cell (.head _) rfl)) <| Aa (hb _ _ _ _ _ _ _ _ _ _ rfl rfl) <| Ad) fun _ F => ?_
    refine Cx (y' := true) Flat.bool F s7.f1 hc ha rfl rfl (by rfl) Fx.sz4 fun w5 _ F s8 => ?_
    refine Ai <| Bz <| Ac <| Ak <| Aj F (Aa (Bq rfl rfl) <| Aa (Af rfl) <| Ad) fun _ F => Ai ?_
    obtain rfl := An H
    refine Ac ?_
    exact ⟨_, rfl, v3, F.sub ⟨rfl, rfl, rfl, rfl, trivial⟩, s8.f1.drop⟩
   replace H := Bc h9 H
   refine Aw <| Bz <| Ac <| Ak <| Aj F (Aa (Bq rfl rfl) <| Aa (Af rfl) <| Ad) fun _ F => Ai ?_
   obtain rfl := An H
   refine Ac ?_
   exact ⟨_, rfl, v3, F.sub ⟨rfl, rfl, rfl, rfl, trivial⟩, s7.drop⟩
  replace H := Bc h2 H
  refine Ca <| Bp <| Bp <| Cb ?_
  obtain rfl := An H
  obtain rfl := hr _ rfl
  refine Ac ?_
  exact ⟨v3, F.sub ⟨rfl, trivial⟩, s3⟩
 intro _ w6 hJ
 obtain ⟨v2, F, s9⟩ := hJ
 have H := R0
 clear R0 H0
 refine Ac <| Ah <| Ak <| Aj F (Aa (Af rfl) <| Aa (Al rfl) <| Ad) fun _ F => Ai <| Ac ?_
 obtain rfl := An H
 refine Bd ?_
 refine Av (rs := [.tmp 2]) (vs := [v2]) F (by rfl) ⟨_, _, rfl, Ay rfl, rfl⟩ ⟨_, rfl, ⟨v2, rfl, s9⟩⟩
-- proviso/opt.constants$1
theorem opt_constants_1_s2_c {w : World} {FF : List Nat} {g1 g2 : Nat} {v1_0 v2_0 : Value} {a0 : Int} {a1 : List S_opt_item} {a2 : List Bool} {r : Bool} (hst : Star [Blk g1 58 [v1_0], Sl T_opt_item v1_0 a1, Blk g2 99 [v2_0], Sl Ty.bool v2_0 a2] w FF)  (H : opt_constants_1_s2 a0 a1 a2 = some r) :
    Calls Tryz.prog 54 #[.int .i64 a0, .pointer (some ⟨g1, 0, none⟩), .pointer (some ⟨g2, 0, none⟩)] w (Ret fun u_ w_ => u_ = .bool r ∧ SL w FF w_ [Blk g1 58 [v1_0], Sl T_opt_item v1_0 a1, Blk g2 99 [v2_0], Sl Ty.bool v2_0 a2]) := by
 have s0 : SL w FF w [Blk g1 58 [v1_0], Sl T_opt_item v1_0 a1, Blk g2 99 [v2_0], Sl Ty.bool v2_0 a2] := SL.init w FF hst
 refine Bn Tryz.func54 rfl Tryz.ntmps54 (Ag rfl) (args := [.int .i64 a0, .pointer (some ⟨g1, 0, none⟩), .pointer (some ⟨g2, 0, none⟩)]) fun q0 F0 => ?_
 unfold opt_constants_1_s2 at H
 refine Ah <| Ak <| Aj F0 (Aa (Al rfl) <| Ad) fun q3 F4 => Ai <| Ac <| Ah <| Ak <| Aj F4 (Aa (Af rfl) <| Aa (Az Fx.nag58 rfl (s0.blk_cell (.head _) rfl)) <| Aa (Cc rfl Tryz.underlying58 (Bu (s0.own_rd (.tail _ <| .head _)))) <| Aa (Cr rfl rfl) <| Aa (Af rfl) <| Ad) fun _ F => Bl (decide (a0 < (a1.length : Int))) (fun h0 => ?_) (fun h0 => ?_)
 ·replace H := Bb h0 H
  refine Aq F rfl rfl (Am rfl h0) (Az Fx.nag99 rfl (s0.blk_cell (.tail _ <| .tail _ <| .head _) rfl)) rfl rfl fun _ F => Aq F rfl rfl (Am rfl h0) (Af rfl) rfl rfl fun _ F => ?_
  obtain ⟨x0, h1, H⟩ := Ap H
  obtain ⟨a3, h2, h3⟩ := Ch Flat.bool s0 (.tail _ <| .tail _ <| .tail _ <| .head _) Fx.sl99 rfl h1
  refine Aq F rfl rfl (Am rfl h0) (h2 _ _ _ _ _ _ _ _ _ _ rfl rfl) rfl rfl fun _ F => Aq F rfl rfl (Am rfl h0) (Az Fx.nag4 rfl (Cells.at_ (SL.elcells Flat.bool s0 (.tail _ <| .tail _ <| .tail _ <| .head _) h3 h1) (o := 0) rfl)) rfl rfl fun _ F => Aq F rfl rfl (Am rfl h0) (Da rfl) rfl rfl fun _ F => Aj F (Aa (Bf (By rfl h0) rfl) <| Aa (Al rfl) <| Ad) fun _ F => Ai <| Ac ?_
  obtain rfl := An H
  refine Bd ?_
  refine Av (rs := [.tmp 4]) (vs := [.bool (!x0)]) F (by rfl) ⟨_, _, rfl, Ay rfl, rfl⟩ ⟨_, rfl, ⟨rfl, s0⟩⟩
 replace H := Bc h0 H
 refine Ao F rfl rfl (Am rfl h0) Ab rfl rfl fun _ F => Ao F rfl rfl (Am rfl h0) Ab rfl rfl fun _ F => Ao F rfl rfl (Am rfl h0) Ab rfl rfl fun _ F => Ao F rfl rfl (Am rfl h0) Ab rfl rfl fun _ F => Ao F rfl rfl (Am rfl h0) Ab rfl rfl fun _ F => Aj F (Aa (Bi (By rfl h0) rfl) <| Aa (Al rfl) <| Ad) fun _ F => Ai <| Ac ?_
 obtain rfl := An H
 refine Bd ?_
 refine Av (rs := [.tmp 4]) (vs := [.bool false]) F (by rfl) ⟨_, _, rfl, Ay rfl, rfl⟩ ⟨_, rfl, ⟨rfl, s0⟩⟩
-- proviso/opt.number
theorem opt_number_c {w : World} {a0 : Int} {r : S_opt_item}  (H : opt_number a0 = some r) :
    Calls Tryz.prog 73 #[.int .i64 a0] w (Ret fun u_ w_ => u_ = .agg ⟨[.int .i64 r.in_.At, .int .u8 (r.in_.Op.toNat : Int), .int .i64 r.in_.A, .int .i64 r.in_.B, .int .i64 r.to, .bool r.gone]⟩ ∧ SL w [] w_ []) := by
 have s0 : SL w [] w [] := SL.init0 w
 refine Bn Tryz.func73 rfl Tryz.ntmps73 (Ag rfl) (args := [.int .i64 a0]) fun q0 F0 => ?_
 unfold opt_number at H
 refine Ah <| Ak <| Bo F0 s0 Fx.zero83 rfl rfl fun g7 w8 q9 F s1 => Ai <| Ac <| Ah <| Ak <| Aj F (Aa (Af rfl) <| Aa (ex_conv rfl Tryz.underlying3 Tryz.underlying21) <| Aa (ex_conv rfl Tryz.underlying21 Tryz.underlying3) <| Aa (Cn (vs := [.int .u8 1, .int .i64 (wr (IntKind.i32.wrap a0))]) Fx.zero79 Fx.pl79 rfl (cs := [.int .i64 0, .int .u8 1, .int .i64 (wr (IntKind.i32.wrap a0)), .int .i64 0]) (rfl)) <| Aa (Cn (vs := [.agg ⟨[.int .i64 0, .int .u8 1, .int .i64 (wr (IntKind.i32.wrap a0)), .int .i64 0]⟩]) Fx.zero83 Fx.pl83 rfl (cs := [.int .i64 0, .int .u8 1, .int .i64 (wr (IntKind.i32.wrap a0)), .int .i64 0, .int .i64 0, .bool false]) (rfl)) <| Ad) fun _ F => ?_
 have s2 := s1
 refine As F s2 rfl rfl Fx.sz83 (Ae rfl (Ae rfl (Ae rfl (Ae rfl (Ae rfl (Ae rfl Ba)))))) (Ag rfl) fun w0 _ F s3 => ?_
 replace s3 : SL w [] w0 [Blk g7 83 [.int .i64 0, .int .u8 1, .int .i64 (wr (IntKind.i32.wrap a0)), .int .i64 0, .int .i64 0, .bool false]] := s3
 refine Ai <| Ac ?_
 obtain rfl := An H
 refine Bd ?_
 refine Av (rs := [.cell 2 83]) (vs := [.agg ⟨[.int .i64 0, .int .u8 1, .int .i64 (wr (IntKind.i32.wrap a0)), .int .i64 0, .int .i64 0, .bool false]⟩]) F (by rfl) ⟨_, _, rfl, Cj s3 (.head _) rfl Fx.agg83 rfl, rfl⟩ ⟨_, rfl, ⟨rfl, s3.drop⟩⟩
-- proviso/opt.truth
theorem opt_truth_c {w : World} {a0 : Bool} {r : S_opt_item}  (H : opt_truth a0 = some r) :
    Calls Tryz.prog 74 #[.bool a0] w (Ret fun u_ w_ => u_ = .agg ⟨[.int .i64 r.in_.At, .int .u8 (r.in_.Op.toNat : Int), .int .i64 r.in_.A, .int .i64 r.in_.B, .int .i64 r.to, .bool r.gone]⟩ ∧ SL w [] w_ []) := by
 have s0 : SL w [] w [] := SL.init0 w
 refine Bn Tryz.func74 rfl Tryz.ntmps74 (Ag rfl) (args := [.bool a0]) fun q0 F0 => ?_
 unfold opt_truth at H
 refine Ah <| Ak <| Bo F0 s0 Fx.zero83 rfl rfl fun g7 w8 q9 F s1 => Ai <| Ac <| Ah <| Ak <| Aj F (Aa (Cn (vs := [.int .u8 2]) Fx.zero79 Fx.pl79 rfl (cs := [.int .i64 0, .int .u8 2, .int .i64 0, .int .i64 0]) (rfl)) <| Aa (Cn (vs := [.agg ⟨[.int .i64 0, .int .u8 2, .int .i64 0, .int .i64 0]⟩]) Fx.zero83 Fx.pl83 rfl (cs := [.int .i64 0, .int .u8 2, .int .i64 0, .int .i64 0, .int .i64 0, .bool false]) (rfl)) <| Ad) fun _ F => Bo F s1 Fx.zero83 rfl rfl fun g0 w0 _ F s2 => ?_
 have s3 := s2
 refine As F s3 rfl rfl Fx.sz83 (Ae rfl (Ae rfl (Ae rfl (Ae rfl (Ae rfl (Ae rfl Ba)))))) (Ag rfl) fun w1 _ F s4 => ?_
 replace s4 : SL w [] w1 [Blk g0 83 [.int .i64 0, .int .u8 2, .int .i64 0, .int .i64 0, .int .i64 0, .bool false], Blk g7 83 [.int .i64 0, .int .u8 0, .int .i64 0, .int .i64 0, .int .i64 0, .bool false]] := s4
 refine Ai <| Ac <| Ah <| Ah <| Ak <| Aj F (Aa (Af rfl) <| Ad) fun _ F => Ai <| Ac <| Bm F rfl (fun h0 => ?_) (fun h0 => ?_)
 ·replace H := Bb h0 H
  refine Ak <| Aj F (Aa (Ax Fx.fa83_0 rfl rfl) <| Aa (Ax Fx.fa79_2 rfl rfl) <| Ad) fun _ F => ?_
  have s5 := s4
  refine Cq F s5 rfl rfl Fx.sz3 rfl rfl rfl fun w2 _ F s6 => ?_
  replace s6 : SL w [] w2 [Blk g0 83 [.int .i64 0, .int .u8 2, .int .i64 1, .int .i64 0, .int .i64 0, .bool false], Blk g7 83 [.int .i64 0, .int .u8 0, .int .i64 0, .int .i64 0, .int .i64 0, .bool false]] := s6
  refine Ai <| Ac <| Ah <| Ak <| Aj F (Aa (Bj Fx.agg83 rfl (s6.blk_cells (.head _) (o := 0) (ds := [.int .i64 0, .int .u8 2, .int .i64 1, .int .i64 0, .int .i64 0, .bool false]) (fun j u hu => by rw [Nat.zero_add]; exact hu)) rfl) <| Ad) fun _ F => ?_
  have s7 := s6.f1
  refine As F s7 rfl rfl Fx.sz83 (Ae rfl (Ae rfl (Ae rfl (Ae rfl (Ae rfl (Ae rfl Ba)))))) (Ag rfl) fun w3 _ F s8 => ?_
  replace s8 : SL w [] w3 [Blk g7 83 [.int .i64 0, .int .u8 2, .int .i64 1, .int .i64 0, .int .i64 0, .bool false], Blk g0 83 [.int .i64 0, .int .u8 2, .int .i64 1, .int .i64 0, .int .i64 0, .bool false]] := s8
  refine Ai <| Ac ?_
  obtain rfl := An H
  refine Bd ?_
  refine Av (rs := [.cell 2 83]) (vs := [.agg ⟨[.int .i64 0, .int .u8 2, .int .i64 1, .int .i64 0, .int .i64 0, .bool false]⟩]) F (by rfl) ⟨_, _, rfl, Cj s8 (.head _) rfl Fx.agg83 rfl, rfl⟩ ⟨_, rfl, ⟨rfl, s8.drop.drop⟩⟩
 replace H := Bc h0 H
 refine Aw <| Ac <| Ah <| Ak <| Aj F (Aa (Bj Fx.agg83 rfl (s4.blk_cells (.head _) (o := 0) (ds := [.int .i64 0, .int .u8 2, .int .i64 0, .int .i64 0, .int .i64 0, .bool false]) (fun j u hu => by rw [Nat.zero_add]; exact hu)) rfl) <| Ad) fun _ F => ?_
 have s9 := s4.f1
 refine As F s9 rfl rfl Fx.sz83 (Ae rfl (Ae rfl (Ae rfl (Ae rfl (Ae rfl (Ae rfl Ba)))))) (Ag rfl) fun w4 _ F sa => ?_
 replace sa : SL w [] w4 [Blk g7 83 [.int .i64 0, .int .u8 2, .int .i64 0, .int .i64 0, .int .i64 0, .bool false], Blk g0 83 [.int .i64 0, .int .u8 2, .int .i64 0, .int .i64 0, .int .i64 0, .bool false]] := sa
 refine Ai <| Ac ?_
 obtain rfl := An H
 refine Bd ?_
 refine Av (rs := [.cell 2 83]) (vs := [.agg ⟨[.int .i64 0, .int .u8 2, .int .i64 0, .int .i64 0, .int .i64 0, .bool false]⟩]) F (by rfl) ⟨_, _, rfl, Cj sa (.head _) rfl Fx.agg83 rfl, rfl⟩ ⟨_, rfl, ⟨rfl, sa.drop.drop⟩⟩
-- proviso/opt.three
theorem opt_three_c {w : World} {a0 : S_api_Instr} {a1 : S_api_Instr} {a2 : S_api_Instr} {r : S_opt_item × Bool}  (H : opt_three a0 a1 a2 = some r) :
    Calls Tryz.prog 55 #[.agg ⟨[.int .i64 a0.At, .int .u8 (a0.Op.toNat : Int), .int .i64 a0.A, .int .i64 a0.B]⟩, .agg ⟨[.int .i64 a1.At, .int .u8 (a1.Op.toNat : Int), .int .i64 a1.A, .int .i64 a1.B]⟩, .agg ⟨[.int .i64 a2.At, .int .u8 (a2.Op.toNat : Int), .int .i64 a2.A, .int .i64 a2.B]⟩] w (Ret fun u_ w_ => u_ = .tuple ⟨[.agg ⟨[.int .i64 r.1.in_.At, .int .u8 (r.1.in_.Op.toNat : Int), .int .i64 r.1.in_.A, .int .i64 r.1.in_.B, .int .i64 r.1.to, .bool r.1.gone]⟩, .bool r.2]⟩ ∧ SL w [] w_ []) := by
 have s0 : SL w [] w [] := SL.init0 w
 refine Bn Tryz.func55 rfl Tryz.ntmps55 (Ag rfl) (args := [.agg ⟨[.int .i64 a0.At, .int .u8 (a0.Op.toNat : Int), .int .i64 a0.A, .int .i64 a0.B]⟩, .agg ⟨[.int .i64 a1.At, .int .u8 (a1.Op.toNat : Int), .int .i64 a1.A, .int .i64 a1.B]⟩, .agg ⟨[.int .i64 a2.At, .int .u8 (a2.Op.toNat : Int), .int .i64 a2.A, .int .i64 a2.B]⟩]) fun q0 F0 => ?_
 unfold opt_three at H
 refine Ah <| Ak <| Db F0 s0 rfl rfl rfl fun g0 w0 _ F s1 => Db F s1 rfl rfl rfl fun g1 w1 _ F s2 => Db F s2 rfl rfl rfl fun g2 w2 _ F s3 => Bo F s3 Fx.zero83 rfl rfl fun g3 w3 _ F s4 => Aj F (Aa (Al rfl) <| Ad) fun _ F => Ai <| Ac <| Ah ?_
 obtain ⟨o0, H0, R0⟩ := Ap H
 clear H
 refine Bx (fun a w_ => Fr a 95 [(3, .pointer (some ⟨g0, 0, none⟩)), (4, .pointer (some ⟨g1, 0, none⟩)), (5, .pointer (some ⟨g2, 0, none⟩)), (6, .pointer (some ⟨g3, 0, none⟩)), (8, .bool o0)] ∧ SL w [] w_ [Blk g3 83 [.int .i64 0, .int .u8 0, .int .i64 0, .int .i64 0, .int .i64 0, .bool false], Blk g2 79 [.int .i64 a2.At, .int .u8 (a2.Op.toNat : Int), .int .i64 a2.A, .int .i64 a2.B], Blk g1 79 [.int .i64 a1.At, .int .u8 (a1.Op.toNat : Int), .int .i64 a1.A, .int .i64 a1.B], Blk g0 79 [.int .i64 a0.At, .int .u8 (a0.Op.toNat : Int), .int .i64 a0.A, .int .i64 a0.B]]) ?_ ?_
 ·have H := H0
  refine Ak <| Aj F (Aa (Ax Fx.fa79_1 rfl rfl) <| Aa (Az Fx.nag5 rfl (s4.blk_cell (.tail _ <| .tail _ <| .tail _ <| .head _) rfl)) <| Aa (Bw rfl rfl) <| Aa (Af rfl) <| Ad) fun _ F => Bl ((a0.Op.toNat : Int) == 1) (fun h0 => ?_) (fun h0 => ?_)
  ·replace H := Bb h0 H
   refine Aq F rfl rfl (Am rfl h0) (Ax Fx.fa79_1 rfl rfl) rfl rfl fun _ F => Aq F rfl rfl (Am rfl h0) (Az Fx.nag5 rfl (s4.blk_cell (.tail _ <| .tail _ <| .head _) rfl)) rfl rfl fun _ F => Aq F rfl rfl (Am rfl h0) (Bw rfl rfl) rfl rfl fun _ F => Aj F (Aa (Bf (By rfl h0) rfl) <| Aa (Al rfl) <| Ad) fun _ F => Ai ?_
   obtain rfl := An H
   refine Ac ?_
   exact ⟨F.sub ⟨rfl, rfl, rfl, rfl, rfl, trivial⟩, s4⟩
  replace H := Bc h0 H
  refine Ao F rfl rfl (Am rfl h0) Ab rfl rfl fun _ F => Ao F rfl rfl (Am rfl h0) Ab rfl rfl fun _ F => Ao F rfl rfl (Am rfl h0) Ab rfl rfl fun _ F => Aj F (Aa (Bi (By rfl h0) rfl) <| Aa (Al rfl) <| Ad) fun _ F => Ai ?_
  obtain rfl := An H
  refine Ac ?_
  exact ⟨F.sub ⟨rfl, rfl, rfl, rfl, rfl, trivial⟩, s4⟩
 intro _ w4 hJ
 obtain ⟨F, s5⟩ := hJ
 have H := R0
 clear R0 H0
 refine Ac <| Ah ?_
 obtain ⟨o1, H1, R1⟩ := Ap H
 clear H
 refine Bx (fun a w_ => Fr a 95 [(3, .pointer (some ⟨g0, 0, none⟩)), (4, .pointer (some ⟨g1, 0, none⟩)), (5, .pointer (some ⟨g2, 0, none⟩)), (6, .pointer (some ⟨g3, 0, none⟩)), (8, .bool o0), (9, .bool o1)] ∧ SL w [] w_ [Blk g3 83 [.int .i64 0, .int .u8 0, .int .i64 0, .int .i64 0, .int .i64 0, .bool false], Blk g2 79 [.int .i64 a2.At, .int .u8 (a2.Op.toNat : Int), .int .i64 a2.A, .int .i64 a2.B], Blk g1 79 [.int .i64 a1.At, .int .u8 (a1.Op.toNat : Int), .int .i64 a1.A, .int .i64 a1.B], Blk g0 79 [.int .i64 a0.At, .int .u8 (a0.Op.toNat : Int), .int .i64 a0.A, .int .i64 a0.B]]) ?_ ?_
 ·have H := H1
  refine Ak <| Aj F (Aa (Ax Fx.fa79_1 rfl rfl) <| Aa (Az Fx.nag5 rfl (s5.blk_cell (.tail _ <| .tail _ <| .tail _ <| .head _) rfl)) <| Aa (Bw rfl rfl) <| Aa (Af rfl) <| Ad) fun _ F => Bl ((a0.Op.toNat : Int) == 2) (fun h1 => ?_) (fun h1 => ?_)
  ·replace H := Bb h1 H
   refine Aq F rfl rfl (Am rfl h1) (Ax Fx.fa79_1 rfl rfl) rfl rfl fun _ F => Aq F rfl rfl (Am rfl h1) (Az Fx.nag5 rfl (s5.blk_cell (.tail _ <| .tail _ <| .head _) rfl)) rfl rfl fun _ F => Aq F rfl rfl (Am rfl h1) (Bw rfl rfl) rfl rfl fun _ F => Aj F (Aa (Bf (By rfl h1) rfl) <| Aa (Al rfl) <| Ad) fun _ F => Ai ?_
   obtain rfl := An H
   refine Ac ?_
   exact ⟨F.sub ⟨rfl, rfl, rfl, rfl, rfl, rfl, trivial⟩, s5⟩
  replace H := Bc h1 H
  refine Ao F rfl rfl (Am rfl h1) Ab rfl rfl fun _ F => Ao F rfl rfl (Am rfl h1) Ab rfl rfl fun _ F => Ao F rfl rfl (Am rfl h1) Ab rfl rfl fun _ F => Aj F (Aa (Bi (By rfl h1) rfl) <| Aa (Al rfl) <| Ad) fun _ F => Ai ?_
  obtain rfl := An H
  refine Ac ?_
  exact ⟨F.sub ⟨rfl, rfl, rfl, rfl, rfl, rfl, trivial⟩, s5⟩
 intro _ w5 hJ
 obtain ⟨F, s6⟩ := hJ
 have H := R1
 clear R1 H1
 refine Ac <| Ah <| Bh <| Ah <| Ak <| Aj F (Aa (Af rfl) <| Aa (Af rfl) <| Ad) fun _ F => Bl o0 (fun h2 => ?_) (fun h2 => ?_)
 ·replace H := Bb h2 H
  refine Aq F rfl rfl (Am rfl h2) (Ax Fx.fa79_1 rfl rfl) rfl rfl fun _ F => Aq F rfl rfl (Am rfl h2) (Az Fx.nag5 rfl (s6.blk_cell (.tail _ <| .head _) rfl)) rfl rfl fun _ F => Aq F rfl rfl (Am rfl h2) (Bw rfl rfl) rfl rfl fun _ F => Aj F (Aa (Bf (By rfl h2) rfl) <| Aa (Al rfl) <| Ad) fun _ F => Ai <| Ac <| Bm F rfl (fun h3 => ?_) (fun h3 => ?_)
  ·replace H := Bb h3 H
   refine Ah <| Ak ?_
   obtain ⟨x0, h4, H⟩ := Ap H
   refine Aj F (Aa (Ax Fx.fa79_2 rfl rfl) <| Aa (Az Fx.nag3 rfl (s6.blk_cell (.tail _ <| .tail _ <| .tail _ <| .head _) rfl)) <| Aa (Ax Fx.fa79_2 rfl rfl) <| Aa (Az Fx.nag3 rfl (s6.blk_cell (.tail _ <| .tail _ <| .head _) rfl)) <| Aa (Bq rfl rfl) <| Ad) fun _ F => Bk (args := [.tmp 37]) F Fx.fn73 rfl (opt_number_c (a0 := wr (a0.A + a1.A))    h4) rfl fun v0 w6 _ h5 F => ?_
   obtain ⟨rfl, h6⟩ := h5
   have s7 := s6.add h6
   have s8 := s7
   refine As F s8 rfl rfl Fx.sz83 (Ae rfl (Ae rfl (Ae rfl (Ae rfl (Ae rfl (Ae rfl Ba)))))) (Ag rfl) fun w7 _ F s9 => ?_
   replace s9 : SL w [] w7 [Blk g3 83 [.int .i64 x0.in_.At, .int .u8 (x0.in_.Op.toNat : Int), .int .i64 x0.in_.A, .int .i64 x0.in_.B, .int .i64 x0.to, .bool x0.gone], Blk g2 79 [.int .i64 a2.At, .int .u8 (a2.Op.toNat : Int), .int .i64 a2.A, .int .i64 a2.B], Blk g1 79 [.int .i64 a1.At, .int .u8 (a1.Op.toNat : Int), .int .i64 a1.A, .int .i64 a1.B], Blk g0 79 [.int .i64 a0.At, .int .u8 (a0.Op.toNat : Int), .int .i64 a0.A, .int .i64 a0.B]] := s9
   refine Aj F (Aa (Al rfl) <| Ad) fun _ F => Ai <| Ac ?_
   obtain rfl := An H
   refine Bd <| blk_r <| Bg ?_
   refine Av (rs := [.cell 6 83, .tmp 7]) (vs := [.agg ⟨[.int .i64 x0.in_.At, .int .u8 (x0.in_.Op.toNat : Int), .int .i64 x0.in_.A, .int .i64 x0.in_.B, .int .i64 x0.to, .bool x0.gone]⟩, .bool true]) F (by rfl) ⟨_, _, rfl, Cj s9 (.head _) rfl Fx.agg83 rfl, _, _, rfl, Ay rfl, rfl⟩ ⟨_, rfl, ⟨rfl, s9.drop.drop.drop.drop⟩⟩
  replace H := Bc h3 H
  refine Ah <| Ak <| Aj F (Aa (Af rfl) <| Aa (Af rfl) <| Ad) fun _ F => Aq F rfl rfl (Am rfl h2) (Ax Fx.fa79_1 rfl rfl) rfl rfl fun _ F => Aq F rfl rfl (Am rfl h2) (Az Fx.nag5 rfl (s6.blk_cell (.tail _ <| .head _) rfl)) rfl rfl fun _ F => Aq F rfl rfl (Am rfl h2) (Bw rfl rfl) rfl rfl fun _ F => Aj F (Aa (Bf (By rfl h2) rfl) <| Aa (Al rfl) <| Ad) fun _ F => Ai <| Ac <| Bm F rfl (fun h7 => ?_) (fun h7 => ?_)
  ·replace H := Bb h7 H
   refine Ah <| Ak ?_
   obtain ⟨x1, h8, H⟩ := Ap H
   refine Aj F (Aa (Ax Fx.fa79_2 rfl rfl) <| Aa (Az Fx.nag3 rfl (s6.blk_cell (.tail _ <| .tail _ <| .tail _ <| .head _) rfl)) <| Aa (Ax Fx.fa79_2 rfl rfl) <| Aa (Az Fx.nag3 rfl (s6.blk_cell (.tail _ <| .tail _ <| .head _) rfl)) <| Aa (ex_sub rfl rfl) <| Ad) fun _ F => Bk (args := [.tmp 50]) F Fx.fn73 rfl (opt_number_c (a0 := wr (a0.A - a1.A))    h8) rfl fun v1 w8 _ h9 F => ?_
   obtain ⟨rfl, ha⟩ := h9
   have sa := s6.add ha
   have sb := sa
   refine As F sb rfl rfl Fx.sz83 (Ae rfl (Ae rfl (Ae rfl (Ae rfl (Ae rfl (Ae rfl Ba)))))) (Ag rfl) fun w9 _ F sc => ?_
   replace sc : SL w [] w9 [Blk g3 83 [.int .i64 x1.in_.At, .int .u8 (x1.in_.Op.toNat : Int), .int .i64 x1.in_.A, .int .i64 x1.in_.B, .int .i64 x1.to, .bool x1.gone], Blk g2 79 [.int .i64 a2.At, .int .u8 (a2.Op.toNat : Int), .int .i64 a2.A, .int .i64 a2.B], Blk g1 79 [.int .i64 a1.At, .int .u8 (a1.Op.toNat : Int), .int .i64 a1.A, .int .i64 a1.B], Blk g0 79 [.int .i64 a0.At, .int .u8 (a0.Op.toNat : Int), .int .i64 a0.A, .int .i64 a0.B]] := sc
   refine Aj F (Aa (Al rfl) <| Ad) fun _ F => Ai <| Ac ?_
   obtain rfl := An H
   refine Bd <| blk_r <| Bg ?_
   refine Av (rs := [.cell 6 83, .tmp 7]) (vs := [.agg ⟨[.int .i64 x1.in_.At, .int .u8 (x1.in_.Op.toNat : Int), .int .i64 x1.in_.A, .int .i64 x1.in_.B, .int .i64 x1.to, .bool x1.gone]⟩, .bool true]) F (by rfl) ⟨_, _, rfl, Cj sc (.head _) rfl Fx.agg83 rfl, _, _, rfl, Ay rfl, rfl⟩ ⟨_, rfl, ⟨rfl, sc.drop.drop.drop.drop⟩⟩
  replace H := Bc h7 H
  refine Ah <| Ak <| Aj F (Aa (Af rfl) <| Aa (Af rfl) <| Ad) fun _ F => Aq F rfl rfl (Am rfl h2) (Ax Fx.fa79_1 rfl rfl) rfl rfl fun _ F => Aq F rfl rfl (Am rfl h2) (Az Fx.nag5 rfl (s6.blk_cell (.tail _ <| .head _) rfl)) rfl rfl fun _ F => Aq F rfl rfl (Am rfl h2) (Bw rfl rfl) rfl rfl fun _ F => Aj F (Aa (Bf (By rfl h2) rfl) <| Aa (Al rfl) <| Ad) fun _ F => Ai <| Ac <| Bm F rfl (fun hb => ?_) (fun hb => ?_)
  ·replace H := Bb hb H
   refine Ah <| Ak ?_
   obtain ⟨x2, hc, H⟩ := Ap H
   refine Aj F (Aa (Ax Fx.fa79_2 rfl rfl) <| Aa (Az Fx.nag3 rfl (s6.blk_cell (.tail _ <| .tail _ <| .tail _ <| .head _) rfl)) <| Aa (Ax Fx.fa79_2 rfl rfl) <| Aa (Az Fx.nag3 rfl (s6.blk_cell (.tail _ <| .tail _ <| .head _) rfl)) <| Aa (ex_mul rfl rfl) <| Ad) fun _ F => Bk (args := [.tmp 63]) F Fx.fn73 rfl (opt_number_c (a0 := wr (a0.A * a1.A))    hc) rfl fun v2 wa _ hd F => ?_
   obtain ⟨rfl, he⟩ := hd
   have sd := s6.add he
   have se := sd
   refine As F se rfl rfl Fx.sz83 (Ae rfl (Ae rfl (Ae rfl (Ae rfl (Ae rfl (Ae rfl Ba)))))) (Ag rfl) fun wb _ F sf => ?_
   replace sf : SL w [] wb [Blk g3 83 [.int .i64 x2.in_.At, .int .u8 (x2.in_.Op.toNat : Int), .int .i64 x2.in_.A, .int .i64 x2.in_.B, .int .i64 x2.to, .bool x2.gone], Blk g2 79 [.int .i64 a2.At, .int .u8 (a2.Op.toNat : Int), .int .i64 a2.A, .int .i64 a2.B], Blk g1 79 [.int .i64 a1.At, .int .u8 (a1.Op.toNat : Int), .int .i64 a1.A, .int .i64 a1.B], Blk g0 79 [.int .i64 a0.At, .int .u8 (a0.Op.toNat : Int), .int .i64 a0.A, .int .i64 a0.B]] := sf
   refine Aj F (Aa (Al rfl) <| Ad) fun _ F => Ai <| Ac ?_
   obtain rfl := An H
   refine Bd <| blk_r <| Bg ?_
   refine Av (rs := [.cell 6 83, .tmp 7]) (vs := [.agg ⟨[.int .i64 x2.in_.At, .int .u8 (x2.in_.Op.toNat : Int), .int .i64 x2.in_.A, .int .i64 x2.in_.B, .int .i64 x2.to, .bool x2.gone]⟩, .bool true]) F (by rfl) ⟨_, _, rfl, Cj sf (.head _) rfl Fx.agg83 rfl, _, _, rfl, Ay rfl, rfl⟩ ⟨_, rfl, ⟨rfl, sf.drop.drop.drop.drop⟩⟩
  replace H := Bc hb H
  refine Ah <| Ak <| Aj F (Aa (Af rfl) <| Aa (Af rfl) <| Ad) fun _ F => Aq F rfl rfl (Am rfl h2) (Ax Fx.fa79_1 rfl rfl) rfl rfl fun _ F => Aq F rfl rfl (Am rfl h2) (Az Fx.nag5 rfl (s6.blk_cell (.tail _ <| .head _) rfl)) rfl rfl fun _ F => Aq F rfl rfl (Am rfl h2) (Bw rfl rfl) rfl rfl fun _ F => Aj F (Aa (Bf (By rfl h2) rfl) <| Aa (Al rfl) <| Ad) fun _ F => Ai <| Ac <| Bm F rfl (fun hf => ?_) (fun hf => ?_)
  ·replace H := Bb hf H
   refine Ah <| Ak ?_
   obtain ⟨x3, hg, H⟩ := Ap H
   refine Aj F (Aa (Ax Fx.fa79_2 rfl rfl) <| Aa (Az Fx.nag3 rfl (s6.blk_cell (.tail _ <| .tail _ <| .tail _ <| .head _) rfl)) <| Aa (Ax Fx.fa79_2 rfl rfl) <| Aa (Az Fx.nag3 rfl (s6.blk_cell (.tail _ <| .tail _ <| .head _) rfl)) <| Aa (Cr rfl rfl) <| Ad) fun _ F => Bk (args := [.tmp 76]) F Fx.fn74 rfl (opt_truth_c (a0 := decide (a0.A < a1.A))    hg) rfl fun v3 wc _ hh F => ?_
   obtain ⟨rfl, hi⟩ := hh
   have sg := s6.add hi
   have sh := sg
   refine As F sh rfl rfl Fx.sz83 (Ae rfl (Ae rfl (Ae rfl (Ae rfl (Ae rfl (Ae rfl Ba)))))) (Ag rfl) fun wd _ F si => ?_
   replace si : SL w [] wd [Blk g3 83 [.int .i64 x3.in_.At, .int .u8 (x3.in_.Op.toNat : Int), .int .i64 x3.in_.A, .int .i64 x3.in_.B, .int .i64 x3.to, .bool x3.gone], Blk g2 79 [.int .i64 a2.At, .int .u8 (a2.Op.toNat : Int), .int .i64 a2.A, .int .i64 a2.B], Blk g1 79 [.int .i64 a1.At, .int .u8 (a1.Op.toNat : Int), .int .i64 a1.A, .int .i64 a1.B], Blk g0 79 [.int .i64 a0.At, .int .u8 (a0.Op.toNat : Int), .int .i64 a0.A, .int .i64 a0.B]] := si
   refine Aj F (Aa (Al rfl) <| Ad) fun _ F => Ai <| Ac ?_
   obtain rfl := An H
   refine Bd <| blk_r <| Bg ?_
   refine Av (rs := [.cell 6 83, .tmp 7]) (vs := [.agg ⟨[.int .i64 x3.in_.At, .int .u8 (x3.in_.Op.toNat : Int), .int .i64 x3.in_.A, .int .i64 x3.in_.B, .int .i64 x3.to, .bool x3.gone]⟩, .bool true]) F (by rfl) ⟨_, _, rfl, Cj si (.head _) rfl Fx.agg83 rfl, _, _, rfl, Ay rfl, rfl⟩ ⟨_, rfl, ⟨rfl, si.drop.drop.drop.drop⟩⟩
  replace H := Bc hf H
  refine Ah <| Ak <| Aj F (Aa (Af rfl) <| Aa (Af rfl) <| Ad) fun _ F => Ao F rfl rfl (Am rfl h2) Ab rfl rfl fun _ F => Aj F (Aa (Bf (By rfl h2) rfl) <| Aa (Af rfl) <| Ad) fun _ F => Aq F rfl rfl rfl (Ax Fx.fa79_1 rfl rfl) rfl rfl fun _ F => Aq F rfl rfl rfl (Az Fx.nag5 rfl (s6.blk_cell (.tail _ <| .head _) rfl)) rfl rfl fun _ F => Aq F rfl rfl rfl (Bw rfl rfl) rfl rfl fun _ F => Aj F (Aa (Bf rfl rfl) <| Aa (Al rfl) <| Ad) fun _ F => Ai <| Ac <| Bm F rfl (fun hj => ?_) (fun hj => ?_)
  ·replace H := Bb hj H
   refine Ah <| Ak ?_
   obtain ⟨x4, hk, H⟩ := Ap H
   refine Aj F (Aa (Ax Fx.fa79_2 rfl rfl) <| Aa (Az Fx.nag3 rfl (s6.blk_cell (.tail _ <| .tail _ <| .tail _ <| .head _) rfl)) <| Aa (Ax Fx.fa79_2 rfl rfl) <| Aa (Az Fx.nag3 rfl (s6.blk_cell (.tail _ <| .tail _ <| .head _) rfl)) <| Aa (Bw rfl rfl) <| Ad) fun _ F => Bk (args := [.tmp 92]) F Fx.fn74 rfl (opt_truth_c (a0 := (a0.A == a1.A))    hk) rfl fun v4 we _ hl F => ?_
   obtain ⟨rfl, hm⟩ := hl
   have sj := s6.add hm
   have sk := sj
   refine As F sk rfl rfl Fx.sz83 (Ae rfl (Ae rfl (Ae rfl (Ae rfl (Ae rfl (Ae rfl Ba)))))) (Ag rfl) fun wf _ F sl => ?_
   replace sl : SL w [] wf [Blk g3 83 [.int .i64 x4.in_.At, .int .u8 (x4.in_.Op.toNat : Int), .int .i64 x4.in_.A, .int .i64 x4.in_.B, .int .i64 x4.to, .bool x4.gone], Blk g2 79 [.int .i64 a2.At, .int .u8 (a2.Op.toNat : Int), .int .i64 a2.A, .int .i64 a2.B], Blk g1 79 [.int .i64 a1.At, .int .u8 (a1.Op.toNat : Int), .int .i64 a1.A, .int .i64 a1.B], Blk g0 79 [.int .i64 a0.At, .int .u8 (a0.Op.toNat : Int), .int .i64 a0.A, .int .i64 a0.B]] := sl
   refine Aj F (Aa (Al rfl) <| Ad) fun _ F => Ai <| Ac ?_
   obtain rfl := An H
   refine Bd <| blk_r <| Bg ?_
   refine Av (rs := [.cell 6 83, .tmp 7]) (vs := [.agg ⟨[.int .i64 x4.in_.At, .int .u8 (x4.in_.Op.toNat : Int), .int .i64 x4.in_.A, .int .i64 x4.in_.B, .int .i64 x4.to, .bool x4.gone]⟩, .bool true]) F (by rfl) ⟨_, _, rfl, Cj sl (.head _) rfl Fx.agg83 rfl, _, _, rfl, Ay rfl, rfl⟩ ⟨_, rfl, ⟨rfl, sl.drop.drop.drop.drop⟩⟩
  replace H := Bc hj H
  refine Aw <| Bz <| Ac <| Ah <| Ak <| Aj F (Aa (Cn (vs := []) Fx.zero83 Fx.pl83 rfl (cs := [.int .i64 0, .int .u8 0, .int .i64 0, .int .i64 0, .int .i64 0, .bool false]) (rfl)) <| Ad) fun _ F => ?_
  have sm := s6
  refine As F sm rfl rfl Fx.sz83 (Ae rfl (Ae rfl (Ae rfl (Ae rfl (Ae rfl (Ae rfl Ba)))))) (Ag rfl) fun wg _ F sn => ?_
  replace sn : SL w [] wg [Blk g3 83 [.int .i64 0, .int .u8 0, .int .i64 0, .int .i64 0, .int .i64 0, .bool false], Blk g2 79 [.int .i64 a2.At, .int .u8 (a2.Op.toNat : Int), .int .i64 a2.A, .int .i64 a2.B], Blk g1 79 [.int .i64 a1.At, .int .u8 (a1.Op.toNat : Int), .int .i64 a1.A, .int .i64 a1.B], Blk g0 79 [.int .i64 a0.At, .int .u8 (a0.Op.toNat : Int), .int .i64 a0.A, .int .i64 a0.B]] := sn
  refine Aj F (Aa (Al rfl) <| Ad) fun _ F => Ai <| Ac ?_
  obtain rfl := An H
  refine Bd ?_
  refine Av (rs := [.cell 6 83, .tmp 7]) (vs := [.agg ⟨[.int .i64 0, .int .u8 0, .int .i64 0, .int .i64 0, .int .i64 0, .bool false]⟩, .bool false]) F (by rfl) ⟨_, _, rfl, Cj sn (.head _) rfl Fx.agg83 rfl, _, _, rfl, Ay rfl, rfl⟩ ⟨_, rfl, ⟨rfl, sn.drop.drop.drop.drop⟩⟩
 replace H := Bc h2 H
 refine Ao F rfl rfl (Am rfl h2) Ab rfl rfl fun _ F => Ao F rfl rfl (Am rfl h2) Ab rfl rfl fun _ F => Ao F rfl rfl (Am rfl h2) Ab rfl rfl fun _ F => Aj F (Aa (Bi (By rfl h2) rfl) <| Aa (Al rfl) <| Ad) fun _ F => Ai <| Ac <| Cm F rfl <| Ah <| Ak <| Aj F (Aa (Af rfl) <| Aa (Af rfl) <| Ad) fun _ F => Ao F rfl rfl (Am rfl h2) Ab rfl rfl fun _ F => Ao F rfl rfl (Am rfl h2) Ab rfl rfl fun _ F => Ao F rfl rfl (Am rfl h2) Ab rfl rfl fun _ F => Aj F (Aa (Bi (By rfl h2) rfl) <| Aa (Al rfl) <| Ad) fun _ F => Ai <| Ac <| Cm F rfl <| Ah <| Ak <| Aj F (Aa (Af rfl) <| Aa (Af rfl) <| Ad) fun _ F => Ao F rfl rfl (Am rfl h2) Ab rfl rfl fun _ F => Ao F rfl rfl (Am rfl h2) Ab rfl rfl fun _ F => Ao F rfl rfl (Am rfl h2) Ab rfl rfl fun _ F => Aj F (Aa (Bi (By rfl h2) rfl) <| Aa (Al rfl) <| Ad) fun _ F => ?_
 refine Ai <| Ac <| Cm F rfl <| Ah <| Ak <| Aj F (Aa (Af rfl) <| Aa (Af rfl) <| Ad) fun _ F => Ao F rfl rfl (Am rfl h2) Ab rfl rfl fun _ F => Ao F rfl rfl (Am rfl h2) Ab rfl rfl fun _ F => Ao F rfl rfl (Am rfl h2) Ab rfl rfl fun _ F => Aj F (Aa (Bi (By rfl h2) rfl) <| Aa (Al rfl) <| Ad) fun _ F => Ai <| Ac <| Cm F rfl <| Ah <| Ak <| Aj F (Aa (Af rfl) <| Aa (Af rfl) <| Ad) fun _ F => Aq F rfl rfl (Am rfl h2) (Af rfl) rfl rfl fun _ F => Aj F (Aa (Bi (By rfl h2) rfl) <| Aa (Af rfl) <| Ad) fun _ F => Bl o1 (fun hn => ?_) (fun hn => ?_)
 ·replace H := Bb hn H
  refine Aq F rfl rfl (Am rfl hn) (Ax Fx.fa79_1 rfl rfl) rfl rfl fun _ F => Aq F rfl rfl (Am rfl hn) (Az Fx.nag5 rfl (s6.blk_cell (.tail _ <| .head _) rfl)) rfl rfl fun _ F => Aq F rfl rfl (Am rfl hn) (Bw rfl rfl) rfl rfl fun _ F => Aj F (Aa (Bf (By rfl hn) rfl) <| Aa (Al rfl) <| Ad) fun _ F => Ai <| Ac <| Bm F rfl (fun ho => ?_) (fun ho => ?_)
  ·replace H := Bb ho H
   refine Ah <| Ak ?_
   obtain ⟨x5, hp, H⟩ := Ap H
   refine Aj F (Aa (Ax Fx.fa79_2 rfl rfl) <| Aa (Az Fx.nag3 rfl (s6.blk_cell (.tail _ <| .tail _ <| .tail _ <| .head _) rfl)) <| Aa (Ax Fx.fa79_2 rfl rfl) <| Aa (Az Fx.nag3 rfl (s6.blk_cell (.tail _ <| .tail _ <| .head _) rfl)) <| Aa (Bw rfl rfl) <| Ad) fun _ F => Bk (args := [.tmp 92]) F Fx.fn74 rfl (opt_truth_c (a0 := (a0.A == a1.A))    hp) rfl fun v5 wh _ hq F => ?_
   obtain ⟨rfl, hr⟩ := hq
   have so := s6.add hr
   have sp := so
   refine As F sp rfl rfl Fx.sz83 (Ae rfl (Ae rfl (Ae rfl (Ae rfl (Ae rfl (Ae rfl Ba)))))) (Ag rfl) fun wi _ F sq => ?_
   replace sq : SL w [] wi [Blk g3 83 [.int .i64 x5.in_.At, .int .u8 (x5.in_.Op.toNat : Int), .int .i64 x5.in_.A, .int .i64 x5.in_.B, .int .i64 x5.to, .bool x5.gone], Blk g2 79 [.int .i64 a2.At, .int .u8 (a2.Op.toNat : Int), .int .i64 a2.A, .int .i64 a2.B], Blk g1 79 [.int .i64 a1.At, .int .u8 (a1.Op.toNat : Int), .int .i64 a1.A, .int .i64 a1.B], Blk g0 79 [.int .i64 a0.At, .int .u8 (a0.Op.toNat : Int), .int .i64 a0.A, .int .i64 a0.B]] := sq
   refine Aj F (Aa (Al rfl) <| Ad) fun _ F => Ai <| Ac ?_
   obtain rfl := An H
   refine Bd <| blk_r <| Bg ?_
   refine Av (rs := [.cell 6 83, .tmp 7]) (vs := [.agg ⟨[.int .i64 x5.in_.At, .int .u8 (x5.in_.Op.toNat : Int), .int .i64 x5.in_.A, .int .i64 x5.in_.B, .int .i64 x5.to, .bool x5.gone]⟩, .bool true]) F (by rfl) ⟨_, _, rfl, Cj sq (.head _) rfl Fx.agg83 rfl, _, _, rfl, Ay rfl, rfl⟩ ⟨_, rfl, ⟨rfl, sq.drop.drop.drop.drop⟩⟩
  replace H := Bc ho H
  refine Aw <| Bz <| Ac <| Ah <| Ak <| Aj F (Aa (Cn (vs := []) Fx.zero83 Fx.pl83 rfl (cs := [.int .i64 0, .int .u8 0, .int .i64 0, .int .i64 0, .int .i64 0, .bool false]) (rfl)) <| Ad) fun _ F => ?_
  have sr := s6
  refine As F sr rfl rfl Fx.sz83 (Ae rfl (Ae rfl (Ae rfl (Ae rfl (Ae rfl (Ae rfl Ba)))))) (Ag rfl) fun wj _ F ss => ?_
  replace ss : SL w [] wj [Blk g3 83 [.int .i64 0, .int .u8 0, .int .i64 0, .int .i64 0, .int .i64 0, .bool false], Blk g2 79 [.int .i64 a2.At, .int .u8 (a2.Op.toNat : Int), .int .i64 a2.A, .int .i64 a2.B], Blk g1 79 [.int .i64 a1.At, .int .u8 (a1.Op.toNat : Int), .int .i64 a1.A, .int .i64 a1.B], Blk g0 79 [.int .i64 a0.At, .int .u8 (a0.Op.toNat : Int), .int .i64 a0.A, .int .i64 a0.B]] := ss
  refine Aj F (Aa (Al rfl) <| Ad) fun _ F => Ai <| Ac ?_
  obtain rfl := An H
  refine Bd ?_
  refine Av (rs := [.cell 6 83, .tmp 7]) (vs := [.agg ⟨[.int .i64 0, .int .u8 0, .int .i64 0, .int .i64 0, .int .i64 0, .bool false]⟩, .bool false]) F (by rfl) ⟨_, _, rfl, Cj ss (.head _) rfl Fx.agg83 rfl, _, _, rfl, Ay rfl, rfl⟩ ⟨_, rfl, ⟨rfl, ss.drop.drop.drop.drop⟩⟩
 replace H := Bc hn H
 refine Ao F rfl rfl (Am rfl hn) Ab rfl rfl fun _ F => Ao F rfl rfl (Am rfl hn) Ab rfl rfl fun _ F => Ao F rfl rfl (Am rfl hn) Ab rfl rfl fun _ F => Aj F (Aa (Bi (By rfl hn) rfl) <| Aa (Al rfl) <| Ad) fun _ F => Ai <| Ac <| Cm F rfl <| Aw <| Bz <| Ac <| Ah <| Ak <| Aj F (Aa (Cn (vs := []) Fx.zero83 Fx.pl83 rfl (cs := [.int .i64 0, .int .u8 0, .int .i64 0, .int .i64 0, .int .i64 0, .bool false]) (rfl)) <| Ad) fun _ F => ?_
 have st := s6
 refine As F st rfl rfl Fx.sz83 (Ae rfl (Ae rfl (Ae rfl (Ae rfl (Ae rfl (Ae rfl Ba)))))) (Ag rfl) fun wk _ F su => ?_
 replace su : SL w [] wk [Blk g3 83 [.int .i64 0, .int .u8 0, .int .i64 0, .int .i64 0, .int .i64 0, .bool false], Blk g2 79 [.int .i64 a2.At, .int .u8 (a2.Op.toNat : Int), .int .i64 a2.A, .int .i64 a2.B], Blk g1 79 [.int .i64 a1.At, .int .u8 (a1.Op.toNat : Int), .int .i64 a1.A, .int .i64 a1.B], Blk g0 79 [.int .i64 a0.At, .int .u8 (a0.Op.toNat : Int), .int .i64 a0.A, .int .i64 a0.B]] := su
 refine Aj F (Aa (Al rfl) <| Ad) fun _ F => Ai <| Ac ?_
 obtain rfl := An H
 refine Bd ?_
 refine Av (rs := [.cell 6 83, .tmp 7]) (vs := [.agg ⟨[.int .i64 0, .int .u8 0, .int .i64 0, .int .i64 0, .int .i64 0, .bool false]⟩, .bool false]) F (by rfl) ⟨_, _, rfl, Cj su (.head _) rfl Fx.agg83 rfl, _, _, rfl, Ay rfl, rfl⟩ ⟨_, rfl, ⟨rfl, su.drop.drop.drop.drop⟩⟩
-- proviso/opt.two
theorem opt_two_c {w : World} {a0 : S_api_Instr} {a1 : S_api_Instr} {r : S_opt_item × Bool}  (H : opt_two a0 a1 = some r) :
    Calls Tryz.prog 56 #[.agg ⟨[.int .i64 a0.At, .int .u8 (a0.Op.toNat : Int), .int .i64 a0.A, .int .i64 a0.B]⟩, .agg ⟨[.int .i64 a1.At, .int .u8 (a1.Op.toNat : Int), .int .i64 a1.A, .int .i64 a1.B]⟩] w (Ret fun u_ w_ => u_ = .tuple ⟨[.agg ⟨[.int .i64 r.1.in_.At, .int .u8 (r.1.in_.Op.toNat : Int), .int .i64 r.1.in_.A, .int .i64 r.1.in_.B, .int .i64 r.1.to, .bool r.1.gone]⟩, .bool r.2]⟩ ∧ SL w [] w_ []) := by
 have s0 : SL w [] w [] := SL.init0 w
 refine Bn Tryz.func56 rfl Tryz.ntmps56 (Ag rfl) (args := [.agg ⟨[.int .i64 a0.At, .int .u8 (a0.Op.toNat : Int), .int .i64 a0.A, .int .i64 a0.B]⟩, .agg ⟨[.int .i64 a1.At, .int .u8 (a1.Op.toNat : Int), .int .i64 a1.A, .int .i64 a1.B]⟩]) fun q0 F0 => ?_
 unfold opt_two at H
 refine Ah <| Ak <| Db F0 s0 rfl rfl rfl fun g0 w0 _ F s1 => Db F s1 rfl rfl rfl fun g1 w1 _ F s2 => Bo F s2 Fx.zero83 rfl rfl fun g2 w2 _ F s3 => Aj F (Aa (Al rfl) <| Ad) fun _ F => Ai <| Ac <| Ah ?_
 obtain ⟨o0, H0, R0⟩ := Ap H
 clear H
 refine Bx (fun a w_ => ∃ p0 : Unit, o0 = .inr (p0) ∧ Fr a 55 [(2, .pointer (some ⟨g0, 0, none⟩)), (3, .pointer (some ⟨g1, 0, none⟩)), (4, .pointer (some ⟨g2, 0, none⟩))] ∧ SL w [] w_ [Blk g2 83 [.int .i64 0, .int .u8 0, .int .i64 0, .int .i64 0, .int .i64 0, .bool false], Blk g1 79 [.int .i64 a1.At, .int .u8 (a1.Op.toNat : Int), .int .i64 a1.A, .int .i64 a1.B], Blk g0 79 [.int .i64 a0.At, .int .u8 (a0.Op.toNat : Int), .int .i64 a0.A, .int .i64 a0.B]]) ?_ ?_
 ·have H := H0
  refine Bh <| Ah <| Ak <| Aj F (Aa (Ax Fx.fa79_1 rfl rfl) <| Aa (Az Fx.nag5 rfl (s3.blk_cell (.tail _ <| .tail _ <| .head _) rfl)) <| Aa (Bw rfl rfl) <| Aa (Af rfl) <| Ad) fun _ F => Bl ((a0.Op.toNat : Int) == 1) (fun h0 => ?_) (fun h0 => ?_)
  ·replace H := Bb h0 H
   refine Aq F rfl rfl (Am rfl h0) (Ax Fx.fa79_1 rfl rfl) rfl rfl fun _ F => Aq F rfl rfl (Am rfl h0) (Az Fx.nag5 rfl (s3.blk_cell (.tail _ <| .head _) rfl)) rfl rfl fun _ F => Aq F rfl rfl (Am rfl h0) (Bw rfl rfl) rfl rfl fun _ F => Aj F (Aa (Bf (By rfl h0) rfl) <| Aa (Al rfl) <| Ad) fun _ F => Ai <| Ac <| Bm F rfl (fun h1 => ?_) (fun h1 => ?_)
   ·replace H := Bb h1 H
    refine Ah <| Ak ?_
    obtain ⟨x0, h2, H⟩ := Ap H
    refine Aj F (Aa (Ax Fx.fa79_2 rfl rfl) <| Aa (Az Fx.nag3 rfl (s3.blk_cell (.tail _ <| .tail _ <| .head _) rfl)) <| Aa (ex_neg rfl) <| Ad) fun _ F => Bk (args := [.tmp 17]) F Fx.fn73 rfl (opt_number_c (a0 := wr (0 - a0.A))    h2) rfl fun v0 w3 _ h3 F => ?_
    obtain ⟨rfl, h4⟩ := h3
    have s4 := s3.add h4
    have s5 := s4
    refine As F s5 rfl rfl Fx.sz83 (Ae rfl (Ae rfl (Ae rfl (Ae rfl (Ae rfl (Ae rfl Ba)))))) (Ag rfl) fun w4 _ F s6 => ?_
    replace s6 : SL w [] w4 [Blk g2 83 [.int .i64 x0.in_.At, .int .u8 (x0.in_.Op.toNat : Int), .int .i64 x0.in_.A, .int .i64 x0.in_.B, .int .i64 x0.to, .bool x0.gone], Blk g1 79 [.int .i64 a1.At, .int .u8 (a1.Op.toNat : Int), .int .i64 a1.A, .int .i64 a1.B], Blk g0 79 [.int .i64 a0.At, .int .u8 (a0.Op.toNat : Int), .int .i64 a0.A, .int .i64 a0.B]] := s6
    refine Aj F (Aa (Al rfl) <| Ad) fun _ F => Ai <| Ac ?_
    obtain rfl := An H
    replace H := R0
    try dsimp only at H
    obtain rfl := An H
    refine Bd <| blk_r <| Bg <| Bg ?_
    refine Av (rs := [.cell 4 83, .tmp 5]) (vs := [.agg ⟨[.int .i64 x0.in_.At, .int .u8 (x0.in_.Op.toNat : Int), .int .i64 x0.in_.A, .int .i64 x0.in_.B, .int .i64 x0.to, .bool x0.gone]⟩, .bool true]) F (by rfl) ⟨_, _, rfl, Cj s6 (.head _) rfl Fx.agg83 rfl, _, _, rfl, Ay rfl, rfl⟩ ⟨_, rfl, ⟨rfl, s6.drop.drop.drop⟩⟩
   replace H := Bc h1 H
   refine Ah <| Ak <| Aj F (Aa (Ax Fx.fa79_1 rfl rfl) <| Aa (Az Fx.nag5 rfl (s3.blk_cell (.tail _ <| .tail _ <| .head _) rfl)) <| Aa (Bw rfl rfl) <| Aa (Af rfl) <| Ad) fun _ F => Bl ((a0.Op.toNat : Int) == 2) (fun h5 => ?_) (fun h5 => ?_)
   ·replace H := Bb h5 H
    refine Aq F rfl rfl (Am rfl h5) (Ax Fx.fa79_1 rfl rfl) rfl rfl fun _ F => Aq F rfl rfl (Am rfl h5) (Az Fx.nag5 rfl (s3.blk_cell (.tail _ <| .head _) rfl)) rfl rfl fun _ F => Aq F rfl rfl (Am rfl h5) (Bw rfl rfl) rfl rfl fun _ F => Aj F (Aa (Bf (By rfl h5) rfl) <| Aa (Al rfl) <| Ad) fun _ F => Ai <| Ac <| Bm F rfl (fun h6 => ?_) (fun h6 => ?_)
    ·replace H := Bb h6 H
     refine Ah <| Ak ?_
     obtain ⟨x1, h7, H⟩ := Ap H
     refine Aj F (Aa (Ax Fx.fa79_2 rfl rfl) <| Aa (Az Fx.nag3 rfl (s3.blk_cell (.tail _ <| .tail _ <| .head _) rfl)) <| Aa (Bw rfl rfl) <| Ad) fun _ F => Bk (args := [.tmp 30]) F Fx.fn74 rfl (opt_truth_c (a0 := (a0.A == 0))    h7) rfl fun v1 w5 _ h8 F => ?_
     obtain ⟨rfl, h9⟩ := h8
     have s7 := s3.add h9
     have s8 := s7
     refine As F s8 rfl rfl Fx.sz83 (Ae rfl (Ae rfl (Ae rfl (Ae rfl (Ae rfl (Ae rfl Ba)))))) (Ag rfl) fun w6 _ F s9 => ?_
     replace s9 : SL w [] w6 [Blk g2 83 [.int .i64 x1.in_.At, .int .u8 (x1.in_.Op.toNat : Int), .int .i64 x1.in_.A, .int .i64 x1.in_.B, .int .i64 x1.to, .bool x1.gone], Blk g1 79 [.int .i64 a1.At, .int .u8 (a1.Op.toNat : Int), .int .i64 a1.A, .int .i64 a1.B], Blk g0 79 [.int .i64 a0.At, .int .u8 (a0.Op.toNat : Int), .int .i64 a0.A, .int .i64 a0.B]] := s9
     refine Aj F (Aa (Al rfl) <| Ad) fun _ F => Ai <| Ac ?_
     obtain rfl := An H
     replace H := R0
     try dsimp only at H
     obtain rfl := An H
     refine Bd <| blk_r <| Bg <| Bg ?_
     refine Av (rs := [.cell 4 83, .tmp 5]) (vs := [.agg ⟨[.int .i64 x1.in_.At, .int .u8 (x1.in_.Op.toNat : Int), .int .i64 x1.in_.A, .int .i64 x1.in_.B, .int .i64 x1.to, .bool x1.gone]⟩, .bool true]) F (by rfl) ⟨_, _, rfl, Cj s9 (.head _) rfl Fx.agg83 rfl, _, _, rfl, Ay rfl, rfl⟩ ⟨_, rfl, ⟨rfl, s9.drop.drop.drop⟩⟩
    replace H := Bc h6 H
    refine Ah <| Ak <| Aj F (Aa (Ax Fx.fa79_1 rfl rfl) <| Aa (Az Fx.nag5 rfl (s3.blk_cell (.tail _ <| .tail _ <| .head _) rfl)) <| Aa (Bw rfl rfl) <| Aa (Af rfl) <| Ad) fun _ F => Bl ((a0.Op.toNat : Int) == 17) (fun ha => ?_) (fun ha => ?_)
    ·replace H := Bb ha H
     refine Aq F rfl rfl (Am rfl ha) (Ax Fx.fa79_1 rfl rfl) rfl rfl fun _ F => Aq F rfl rfl (Am rfl ha) (Az Fx.nag5 rfl (s3.blk_cell (.tail _ <| .head _) rfl)) rfl rfl fun _ F => Aq F rfl rfl (Am rfl ha) (Bw rfl rfl) rfl rfl fun _ F => Aj F (Aa (Bf (By rfl ha) rfl) <| Aa (Al rfl) <| Ad) fun _ F => Ai <| Ac <| Cm F (Am rfl h6) <| Aw <| Bz ?_
     obtain rfl := An H
     refine Ac ?_
     exact ⟨_, rfl, F.sub ⟨rfl, rfl, rfl, trivial⟩, s3⟩
    replace H := Bc ha H
    refine Ao F rfl rfl (Am rfl ha) Ab rfl rfl fun _ F => Ao F rfl rfl (Am rfl ha) Ab rfl rfl fun _ F => Ao F rfl rfl (Am rfl ha) Ab rfl rfl fun _ F => Aj F (Aa (Bi (By rfl ha) rfl) <| Aa (Al rfl) <| Ad) fun _ F => Ai <| Ac <| Cm F rfl <| Aw <| Bz ?_
    obtain rfl := An H
    refine Ac ?_
    exact ⟨_, rfl, F.sub ⟨rfl, rfl, rfl, trivial⟩, s3⟩
   replace H := Bc h5 H
   refine Ao F rfl rfl (Am rfl h5) Ab rfl rfl fun _ F => Ao F rfl rfl (Am rfl h5) Ab rfl rfl fun _ F => Ao F rfl rfl (Am rfl h5) Ab rfl rfl fun _ F => Aj F (Aa (Bi (By rfl h5) rfl) <| Aa (Al rfl) <| Ad) fun _ F => Ai <| Ac <| Cm F rfl <| Ah <| Ak <| Aj F (Aa (Ax Fx.fa79_1 rfl rfl) <| Aa (Az Fx.nag5 rfl (s3.blk_cell (.tail _ <| .tail _ <| .head _) rfl)) <| Aa (Bw rfl rfl) <| Aa (Af rfl) <| Ad) fun _ F => Bl ((a0.Op.toNat : Int) == 17) (fun hb => ?_) (fun hb => ?_)
   ·replace H := Bb hb H
    refine Aq F rfl rfl (Am rfl hb) (Ax Fx.fa79_1 rfl rfl) rfl rfl fun _ F => Aq F rfl rfl (Am rfl hb) (Az Fx.nag5 rfl (s3.blk_cell (.tail _ <| .head _) rfl)) rfl rfl fun _ F => Aq F rfl rfl (Am rfl hb) (Bw rfl rfl) rfl rfl fun _ F => Aj F (Aa (Bf (By rfl hb) rfl) <| Aa (Al rfl) <| Ad) fun _ F => Ai <| Ac <| Bm F rfl (fun hc => ?_) (fun hc => ?_)
    ·replace H := Bb hc H
     refine Ah <| Ak <| Aj F (Aa (Cn (vs := [.bool true]) Fx.zero83 Fx.pl83 rfl (cs := [.int .i64 0, .int .u8 0, .int .i64 0, .int .i64 0, .int .i64 0, .bool true]) (rfl)) <| Ad) fun _ F => ?_
     have sa := s3
     refine As F sa rfl rfl Fx.sz83 (Ae rfl (Ae rfl (Ae rfl (Ae rfl (Ae rfl (Ae rfl Ba)))))) (Ag rfl) fun w7 _ F sb => ?_
     replace sb : SL w [] w7 [Blk g2 83 [.int .i64 0, .int .u8 0, .int .i64 0, .int .i64 0, .int .i64 0, .bool true], Blk g1 79 [.int .i64 a1.At, .int .u8 (a1.Op.toNat : Int), .int .i64 a1.A, .int .i64 a1.B], Blk g0 79 [.int .i64 a0.At, .int .u8 (a0.Op.toNat : Int), .int .i64 a0.A, .int .i64 a0.B]] := sb
     refine Aj F (Aa (Al rfl) <| Ad) fun _ F => Ai <| Ac ?_
     obtain rfl := An H
     replace H := R0
     try dsimp only at H
     obtain rfl := An H
     refine Bd <| blk_r <| Bg <| Bg ?_
     refine Av (rs := [.cell 4 83, .tmp 5]) (vs := [.agg ⟨[.int .i64 0, .int .u8 0, .int .i64 0, .int .i64 0, .int .i64 0, .bool true]⟩, .bool true]) F (by rfl) ⟨_, _, rfl, Cj sb (.head _) rfl Fx.agg83 rfl, _, _, rfl, Ay rfl, rfl⟩ ⟨_, rfl, ⟨rfl, sb.drop.drop.drop⟩⟩
    replace H := Bc hc H
    refine Aw <| Bz ?_
    obtain rfl := An H
    refine Ac ?_
    exact ⟨_, rfl, F.sub ⟨rfl, rfl, rfl, trivial⟩, s3⟩
   replace H := Bc hb H
   refine Ao F rfl rfl (Am rfl hb) Ab rfl rfl fun _ F => Ao F rfl rfl (Am rfl hb) Ab rfl rfl fun _ F => Ao F rfl rfl (Am rfl hb) Ab rfl rfl fun _ F => Aj F (Aa (Bi (By rfl hb) rfl) <| Aa (Al rfl) <| Ad) fun _ F => Ai <| Ac <| Cm F rfl <| Aw <| Bz ?_
   obtain rfl := An H
   refine Ac ?_
   exact ⟨_, rfl, F.sub ⟨rfl, rfl, rfl, trivial⟩, s3⟩
  replace H := Bc h0 H
  refine Ao F rfl rfl (Am rfl h0) Ab rfl rfl fun _ F => Ao F rfl rfl (Am rfl h0) Ab rfl rfl fun _ F => Ao F rfl rfl (Am rfl h0) Ab rfl rfl fun _ F => Aj F (Aa (Bi (By rfl h0) rfl) <| Aa (Al rfl) <| Ad) fun _ F => Ai <| Ac <| Cm F rfl <| Ah <| Ak <| Aj F (Aa (Ax Fx.fa79_1 rfl rfl) <| Aa (Az Fx.nag5 rfl (s3.blk_cell (.tail _ <| .tail _ <| .head _) rfl)) <| Aa (Bw rfl rfl) <| Aa (Af rfl) <| Ad) fun _ F => Bl ((a0.Op.toNat : Int) == 2) (fun hd => ?_) (fun hd => ?_)
  ·replace H := Bb hd H
   refine Aq F rfl rfl (Am rfl hd) (Ax Fx.fa79_1 rfl rfl) rfl rfl fun _ F => Aq F rfl rfl (Am rfl hd) (Az Fx.nag5 rfl (s3.blk_cell (.tail _ <| .head _) rfl)) rfl rfl fun _ F => Aq F rfl rfl (Am rfl hd) (Bw rfl rfl) rfl rfl fun _ F => Aj F (Aa (Bf (By rfl hd) rfl) <| Aa (Al rfl) <| Ad) fun _ F => Ai <| Ac <| Bm F rfl (fun he => ?_) (fun he => ?_)
   ·replace H := Bb he H
    refine Ah <| Ak ?_
    obtain ⟨x2, hf, H⟩ := Ap H
    refine Aj F (Aa (Ax Fx.fa79_2 rfl rfl) <| Aa (Az Fx.nag3 rfl (s3.blk_cell (.tail _ <| .tail _ <| .head _) rfl)) <| Aa (Bw rfl rfl) <| Ad) fun _ F => Bk (args := [.tmp 30]) F Fx.fn74 rfl (opt_truth_c (a0 := (a0.A == 0))    hf) rfl fun v2 w8 _ hg F => ?_
    obtain ⟨rfl, hh⟩ := hg
    have sc := s3.add hh
    have sd := sc
    refine As F sd rfl rfl Fx.sz83 (Ae rfl (Ae rfl (Ae rfl (Ae rfl (Ae rfl (Ae rfl Ba)))))) (Ag rfl) fun w9 _ F se => ?_
    replace se : SL w [] w9 [Blk g2 83 [.int .i64 x2.in_.At, .int .u8 (x2.in_.Op.toNat : Int), .int .i64 x2.in_.A, .int .i64 x2.in_.B, .int .i64 x2.to, .bool x2.gone], Blk g1 79 [.int .i64 a1.At, .int .u8 (a1.Op.toNat : Int), .int .i64 a1.A, .int .i64 a1.B], Blk g0 79 [.int .i64 a0.At, .int .u8 (a0.Op.toNat : Int), .int .i64 a0.A, .int .i64 a0.B]] := se
    refine Aj F (Aa (Al rfl) <| Ad) fun _ F => Ai <| Ac ?_
    obtain rfl := An H
    replace H := R0
    try dsimp only at H
    obtain rfl := An H
    refine Bd <| blk_r <| Bg <| Bg ?_
    refine Av (rs := [.cell 4 83, .tmp 5]) (vs := [.agg ⟨[.int .i64 x2.in_.At, .int .u8 (x2.in_.Op.toNat : Int), .int .i64 x2.in_.A, .int .i64 x2.in_.B, .int .i64 x2.to, .bool x2.gone]⟩, .bool true]) F (by rfl) ⟨_, _, rfl, Cj se (.head _) rfl Fx.agg83 rfl, _, _, rfl, Ay rfl, rfl⟩ ⟨_, rfl, ⟨rfl, se.drop.drop.drop⟩⟩
   replace H := Bc he H
   refine Ah <| Ak <| Aj F (Aa (Ax Fx.fa79_1 rfl rfl) <| Aa (Az Fx.nag5 rfl (s3.blk_cell (.tail _ <| .tail _ <| .head _) rfl)) <| Aa (Bw rfl rfl) <| Aa (Af rfl) <| Ad) fun _ F => Bl ((a0.Op.toNat : Int) == 17) (fun hi => ?_) (fun hi => ?_)
   ·replace H := Bb hi H
    refine Aq F rfl rfl (Am rfl hi) (Ax Fx.fa79_1 rfl rfl) rfl rfl fun _ F => Aq F rfl rfl (Am rfl hi) (Az Fx.nag5 rfl (s3.blk_cell (.tail _ <| .head _) rfl)) rfl rfl fun _ F => Aq F rfl rfl (Am rfl hi) (Bw rfl rfl) rfl rfl fun _ F => Aj F (Aa (Bf (By rfl hi) rfl) <| Aa (Al rfl) <| Ad) fun _ F => Ai <| Ac <| Cm F (Am rfl he) <| Aw <| Bz ?_
    obtain rfl := An H
    refine Ac ?_
    exact ⟨_, rfl, F.sub ⟨rfl, rfl, rfl, trivial⟩, s3⟩
   replace H := Bc hi H
   refine Ao F rfl rfl (Am rfl hi) Ab rfl rfl fun _ F => Ao F rfl rfl (Am rfl hi) Ab rfl rfl fun _ F => Ao F rfl rfl (Am rfl hi) Ab rfl rfl fun _ F => Aj F (Aa (Bi (By rfl hi) rfl) <| Aa (Al rfl) <| Ad) fun _ F => Ai <| Ac <| Cm F rfl <| Aw <| Bz ?_
   obtain rfl := An H
   refine Ac ?_
   exact ⟨_, rfl, F.sub ⟨rfl, rfl, rfl, trivial⟩, s3⟩
  replace H := Bc hd H
  refine Ao F rfl rfl (Am rfl hd) Ab rfl rfl fun _ F => Ao F rfl rfl (Am rfl hd) Ab rfl rfl fun _ F => Ao F rfl rfl (Am rfl hd) Ab rfl rfl fun _ F => Aj F (Aa (Bi (By rfl hd) rfl) <| Aa (Al rfl) <| Ad) fun _ F => Ai <| Ac <| Cm F rfl <| Ah <| Ak <| Aj F (Aa (Ax Fx.fa79_1 rfl rfl) <| Aa (Az Fx.nag5 rfl (s3.blk_cell (.tail _ <| .tail _ <| .head _) rfl)) <| Aa (Bw rfl rfl) <| Aa (Af rfl) <| Ad) fun _ F => Bl ((a0.Op.toNat : Int) == 17) (fun hj => ?_) (fun hj => ?_)
  ·replace H := Bb hj H
   refine Aq F rfl rfl (Am rfl hj) (Ax Fx.fa79_1 rfl rfl) rfl rfl fun _ F => Aq F rfl rfl (Am rfl hj) (Az Fx.nag5 rfl (s3.blk_cell (.tail _ <| .head _) rfl)) rfl rfl fun _ F => Aq F rfl rfl (Am rfl hj) (Bw rfl rfl) rfl rfl fun _ F => Aj F (Aa (Bf (By rfl hj) rfl) <| Aa (Al rfl) <| Ad) fun _ F => Ai <| Ac <| Bm F rfl (fun hk => ?_) (fun hk => ?_)
   ·replace H := Bb hk H
    refine Ah <| Ak <| Aj F (Aa (Cn (vs := [.bool true]) Fx.zero83 Fx.pl83 rfl (cs := [.int .i64 0, .int .u8 0, .int .i64 0, .int .i64 0, .int .i64 0, .bool true]) (rfl)) <| Ad) fun _ F => ?_
    have sf := s3
    refine As F sf rfl rfl Fx.sz83 (Ae rfl (Ae rfl (Ae rfl (Ae rfl (Ae rfl (Ae rfl Ba)))))) (Ag rfl) fun wa _ F sg => ?_
    replace sg : SL w [] wa [Blk g2 83 [.int .i64 0, .int .u8 0, .int .i64 0, .int .i64 0, .int .i64 0, .bool true], Blk g1 79 [.int .i64 a1.At, .int .u8 (a1.Op.toNat : Int), .int .i64 a1.A, .int .i64 a1.B], Blk g0 79 [.int .i64 a0.At, .int .u8 (a0.Op.toNat : Int), .int .i64 a0.A, .int .i64 a0.B]] := sg
    refine Aj F (Aa (Al rfl) <| Ad) fun _ F => Ai <| Ac ?_
    obtain rfl := An H
    replace H := R0
    try dsimp only at H
    obtain rfl := An H
    refine Bd <| blk_r <| Bg <| Bg ?_
    refine Av (rs := [.cell 4 83, .tmp 5]) (vs := [.agg ⟨[.int .i64 0, .int .u8 0, .int .i64 0, .int .i64 0, .int .i64 0, .bool true]⟩, .bool true]) F (by rfl) ⟨_, _, rfl, Cj sg (.head _) rfl Fx.agg83 rfl, _, _, rfl, Ay rfl, rfl⟩ ⟨_, rfl, ⟨rfl, sg.drop.drop.drop⟩⟩
   replace H := Bc hk H
   refine Aw <| Bz ?_
   obtain rfl := An H
   refine Ac ?_
   exact ⟨_, rfl, F.sub ⟨rfl, rfl, rfl, trivial⟩, s3⟩
  replace H := Bc hj H
  refine Ao F rfl rfl (Am rfl hj) Ab rfl rfl fun _ F => Ao F rfl rfl (Am rfl hj) Ab rfl rfl fun _ F => Ao F rfl rfl (Am rfl hj) Ab rfl rfl fun _ F => Aj F (Aa (Bi (By rfl hj) rfl) <| Aa (Al rfl) <| Ad) fun _ F => Ai <| Ac <| Cm F rfl <| Aw <| Bz ?_
  obtain rfl := An H
  refine Ac ?_
  exact ⟨_, rfl, F.sub ⟨rfl, rfl, rfl, trivial⟩, s3⟩
 intro _ wb hJ
 obtain ⟨p0, rfl, F, sh⟩ := hJ
 have H := R0
 clear R0 H0
 try dsimp only at H
 refine Ac <| Ah <| Ah <| Ak <| Aj F (Aa (Ax Fx.fa79_1 rfl rfl) <| Aa (Az Fx.nag5 rfl (sh.blk_cell (.tail _ <| .head _) rfl)) <| Aa (De rfl rfl) <| Ad) fun _ F => Ai <| Ac <| Bm F rfl (fun hl => ?_) (fun hl => ?_)
 ·replace H := Bb hl H
  refine Ah <| Ak <| Aj F (Aa (Cn (vs := []) Fx.zero83 Fx.pl83 rfl (cs := [.int .i64 0, .int .u8 0, .int .i64 0, .int .i64 0, .int .i64 0, .bool false]) (rfl)) <| Ad) fun _ F => ?_
  have si := sh
  refine As F si rfl rfl Fx.sz83 (Ae rfl (Ae rfl (Ae rfl (Ae rfl (Ae rfl (Ae rfl Ba)))))) (Ag rfl) fun wc _ F sj => ?_
  replace sj : SL w [] wc [Blk g2 83 [.int .i64 0, .int .u8 0, .int .i64 0, .int .i64 0, .int .i64 0, .bool false], Blk g1 79 [.int .i64 a1.At, .int .u8 (a1.Op.toNat : Int), .int .i64 a1.A, .int .i64 a1.B], Blk g0 79 [.int .i64 a0.At, .int .u8 (a0.Op.toNat : Int), .int .i64 a0.A, .int .i64 a0.B]] := sj
  refine Aj F (Aa (Al rfl) <| Ad) fun _ F => Ai <| Ac ?_
  obtain rfl := An H
  refine Bd <| Bg ?_
  refine Av (rs := [.cell 4 83, .tmp 5]) (vs := [.agg ⟨[.int .i64 0, .int .u8 0, .int .i64 0, .int .i64 0, .int .i64 0, .bool false]⟩, .bool false]) F (by rfl) ⟨_, _, rfl, Cj sj (.head _) rfl Fx.agg83 rfl, _, _, rfl, Ay rfl, rfl⟩ ⟨_, rfl, ⟨rfl, sj.drop.drop.drop⟩⟩
 replace H := Bc hl H
 refine Aw <| Ac <| Ah <| Ah <| Ak <| Aj F (Aa (Ax Fx.fa79_1 rfl rfl) <| Aa (Az Fx.nag5 rfl (sh.blk_cell (.tail _ <| .tail _ <| .head _) rfl)) <| Ad) fun _ F => Ai <| Ac <| Bh <| Ah ?_
 obtain ⟨o1, H1, R1⟩ := Ap H
 clear H
 refine Bx (fun a w_ => Fr a 55 [(4, .pointer (some ⟨g2, 0, none⟩)), (48, .bool o1)] ∧ SL w [] w_ [Blk g2 83 [.int .i64 0, .int .u8 0, .int .i64 0, .int .i64 0, .int .i64 0, .bool false]]) ?_ ?_
 ·have H := H1
  refine Ah <| Ak <| Aj F (Aa (Bw rfl rfl) <| Aa (Al rfl) <| Ad) fun _ F => Ai <| Ac <| Bm F rfl (fun hm => ?_) (fun hm => ?_)
  ·replace H := Bb hm H
   refine Aw ?_
   obtain rfl := An H
   refine Ac ?_
   exact ⟨F.sub ⟨rfl, rfl, trivial⟩, sh.f1.drop.f1.drop⟩
  replace H := Bc hm H
  refine Ah <| Ak <| Aj F (Aa (Bw rfl rfl) <| Aa (Al rfl) <| Ad) fun _ F => Ai <| Ac <| Bm F rfl (fun hn => ?_) (fun hn => ?_)
  ·replace H := Bb hn H
   refine Aw ?_
   obtain rfl := An H
   refine Ac ?_
   exact ⟨F.sub ⟨rfl, rfl, trivial⟩, sh.f1.drop.f1.drop⟩
  replace H := Bc hn H
  refine Ah <| Ak <| Aj F (Aa (Bw rfl rfl) <| Aa (Al rfl) <| Ad) fun _ F => Ai <| Ac <| Bm F rfl (fun ho => ?_) (fun ho => ?_)
  ·replace H := Bb ho H
   refine Aw ?_
   obtain rfl := An H
   refine Ac ?_
   exact ⟨F.sub ⟨rfl, rfl, trivial⟩, sh.f1.drop.f1.drop⟩
  replace H := Bc ho H
  refine Ak <| Aj F (Aa (Bw rfl rfl) <| Aa (Al rfl) <| Ad) fun _ F => Ai ?_
  obtain rfl := An H
  refine Ac ?_
  exact ⟨F.sub ⟨rfl, rfl, trivial⟩, sh.f1.drop.f1.drop⟩
 intro _ wd hJ
 obtain ⟨F, sk⟩ := hJ
 have H := R1
 clear R1 H1
 refine Ac <| Bm F rfl (fun hp => ?_) (fun hp => ?_)
 ·replace H := Bb hp H
  refine Ah <| Ak <| Aj F (Aa (Cn (vs := [.bool true]) Fx.zero83 Fx.pl83 rfl (cs := [.int .i64 0, .int .u8 0, .int .i64 0, .int .i64 0, .int .i64 0, .bool true]) (rfl)) <| Ad) fun _ F => ?_
  have sl := sk
  refine As F sl rfl rfl Fx.sz83 (Ae rfl (Ae rfl (Ae rfl (Ae rfl (Ae rfl (Ae rfl Ba)))))) (Ag rfl) fun we _ F sm => ?_
  replace sm : SL w [] we [Blk g2 83 [.int .i64 0, .int .u8 0, .int .i64 0, .int .i64 0, .int .i64 0, .bool true]] := sm
  refine Aj F (Aa (Al rfl) <| Ad) fun _ F => Ai <| Ac ?_
  obtain rfl := An H
  refine Bd <| blk_r <| Bg ?_
  refine Av (rs := [.cell 4 83, .tmp 5]) (vs := [.agg ⟨[.int .i64 0, .int .u8 0, .int .i64 0, .int .i64 0, .int .i64 0, .bool true]⟩, .bool true]) F (by rfl) ⟨_, _, rfl, Cj sm (.head _) rfl Fx.agg83 rfl, _, _, rfl, Ay rfl, rfl⟩ ⟨_, rfl, ⟨rfl, sm.drop⟩⟩
 replace H := Bc hp H
 refine Aw <| Bz <| Ac <| Ah <| Ak <| Aj F (Aa (Cn (vs := []) Fx.zero83 Fx.pl83 rfl (cs := [.int .i64 0, .int .u8 0, .int .i64 0, .int .i64 0, .int .i64 0, .bool false]) (rfl)) <| Ad) fun _ F => ?_
 have sn := sk
 refine As F sn rfl rfl Fx.sz83 (Ae rfl (Ae rfl (Ae rfl (Ae rfl (Ae rfl (Ae rfl Ba)))))) (Ag rfl) fun wf _ F so => ?_
 replace so : SL w [] wf [Blk g2 83 [.int .i64 0, .int .u8 0, .int .i64 0, .int .i64 0, .int .i64 0, .bool false]] := so
 refine Aj F (Aa (Al rfl) <| Ad) fun _ F => Ai <| Ac ?_
 obtain rfl := An H
 refine Bd ?_
 refine Av (rs := [.cell 4 83, .tmp 5]) (vs := [.agg ⟨[.int .i64 0, .int .u8 0, .int .i64 0, .int .i64 0, .int .i64 0, .bool false]⟩, .bool false]) F (by rfl) ⟨_, _, rfl, Cj so (.head _) rfl Fx.agg83 rfl, _, _, rfl, Ay rfl, rfl⟩ ⟨_, rfl, ⟨rfl, so.drop⟩⟩
end Go.Proofs.YtmeodoidfpcjlaaGreat
